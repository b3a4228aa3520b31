import PyProof.Rows.All
import Wide.All
import OpenK.AllK
import Wide.FinOn
import HandS.ForMost
import HandS.StrMore
import HandS.Style
import HandS.IsInst
import HandS.MakeKwOnly
import HandS.Flow
import PyProof.Draws
import PyProof.CollectIter
import PySem.Challenge.RW_boxmoves_k12_whole_texts_in_all
import HandS.WordsDict
import HandS.Walk
set_option Elab.async false
set_option linter.all false
set_option maxRecDepth 100000
set_option maxHeartbeats 4000000
/-! boxmoves: the plain functions (code points as numbers) -/
namespace BX
abbrev T := List Nat
abbrev INS : T := [44, 66, 48, 47]
abbrev FLT : T := [43, 45, 36]
abbrev FIG : T := [48, 49, 50, 51, 52, 53, 54, 55, 56, 57]
/-- the parts of edited figures -/
structure P where
  lead : T
  whole : T
  broken : T
  tail : T
  first : Nat
def dot (p : P) : T := if p.broken = [] then [] else 46 :: p.broken
def line (p : P) : T := p.lead ++ p.whole ++ dot p ++ p.tail
def plc (w : T) : T := w.filter fun c => !decide (c ∈ INS)
def bef (p : P) : Nat := (plc p.whole).length - (if p.first ∈ FLT then 1 else 0)
def beh (p : P) : Nat := p.broken.length
def shows (p : P) : Bool := decide (43 ∈ p.lead ∨ 45 ∈ p.lead ∨ p.first = 43 ∨ p.first = 45 ∨ p.tail ≠ [])
/-- what the law draws -/
structure Dr (p : P) : Prop where
  f6 : p.first ∈ [57, 90, 42, 43, 45, 36]
  hd : ∃ w, p.whole = p.first :: w
  pl : ∃ a b, plc p.whole = List.replicate a p.first ++ List.replicate b 57 ∧ 1 ≤ a ∧ (p.first ∈ FLT → 2 ≤ a) ∧ a + b ≤ 8 ∧ (p.first = 57 → b = 0)
  br : (∃ n, n ≤ 3 ∧ p.broken = List.replicate n 57) ∨ ((p.first = 90 ∨ p.first = 42) ∧ 57 ∉ p.whole ∧ ∃ n, n ≤ 3 ∧ p.broken = List.replicate n p.first)
  ld : p.lead ∈ ([[], [43], [45], [36], [43, 36], [45, 36]] : List T)
  l1 : p.first = 43 ∨ p.first = 45 → 43 ∉ p.lead ∧ 45 ∉ p.lead
  l2 : p.first = 36 → 36 ∉ p.lead
  tl : p.tail ∈ ([[], [43], [45], [67, 82], [68, 66]] : List T)
  t1 : (p.first = 43 ∨ p.first = 45 ∨ 43 ∈ p.lead ∨ 45 ∈ p.lead) → p.tail = []
  nn : ¬ (p.first = 57 ∧ p.lead = [] ∧ p.broken = [] ∧ p.tail = [] ∧ ∀ c ∈ p.whole, c = 57)
  ln : p.whole.length ≤ 40
/-! ### editing -/
def sgn (y : T) (b : Bool) : T :=
  if y = [43] then (if b = true then [45] else [43]) else if y = [45] then (if b = true then [45] else [32])
  else if y = [67, 82] ∨ y = [68, 66] then (if b = true then y else [32, 32]) else y
def fnd (fl : Bool) : Nat → T → T → T
  | _, [], _ => []
  | k, c :: w, l => if c ∈ INS then (if c = 66 then 32 else c) :: fnd fl (k + 1) w l
    else if k = 0 ∧ fl = true then 32 :: fnd fl (k + 1) w l
    else l.headD 48 :: fnd fl (k + 1) w l.tail
def lst (fl : Bool) : Nat → T → T → Bool → Option Nat → Option Nat
  | _, [], _, _, cur => cur
  | k, c :: w, l, en, cur => if c ∈ INS then lst fl (k + 1) w l en cur
    else if k = 0 ∧ fl = true then lst fl (k + 1) w l en (some k)
    else lst fl (k + 1) w l.tail (en || decide (c = 57 ∨ l.headD 48 ≠ 48)) (if (en || decide (c = 57 ∨ l.headD 48 ≠ 48)) = true then cur else some k)
theorem fnd_cons (fl : Bool) (k c : Nat) (w l : T) : fnd fl k (c :: w) l = if c ∈ INS then (if c = 66 then 32 else c) :: fnd fl (k + 1) w l else if k = 0 ∧ fl = true then 32 :: fnd fl (k + 1) w l else l.headD 48 :: fnd fl (k + 1) w l.tail := rfl
theorem lst_cons (fl : Bool) (k c : Nat) (w l : T) (en : Bool) (cur : Option Nat) : lst fl k (c :: w) l en cur = if c ∈ INS then lst fl (k + 1) w l en cur else if k = 0 ∧ fl = true then lst fl (k + 1) w l en (some k)
    else lst fl (k + 1) w l.tail (en || decide (c = 57 ∨ l.headD 48 ≠ 48)) (if (en || decide (c = 57 ∨ l.headD 48 ≠ 48)) = true then cur else some k) := rfl
def skp (w : T) (k : Nat) : Nat := k + ((w.drop k).takeWhile fun c => decide (c ∈ INS)).length
def fill (p : P) : Nat := if p.first = 42 then 42 else 32
def blk (p : P) (f : T) : Option Nat → T
  | none => f
  | some l => List.replicate (skp p.whole (l + 1)) (fill p) ++ f.drop (skp p.whole (l + 1))
def last (p : P) (ds : T) : Option Nat := lst (decide (p.first ∈ FLT)) 0 p.whole ds false none
def sgns (p : P) (ds : T) (b : Bool) : T :=
  if p.first ∈ FLT then (blk p (fnd true 0 p.whole ds) (last p ds)).set (skp p.whole ((last p ds).getD 0 + 1) - 1) ((sgn [p.first] b).headD 32)
  else blk p (fnd false 0 p.whole ds) (last p ds)
def bare (p : P) : Prop := 57 ∉ p.whole ++ p.broken ∧ p.first ∉ FLT
instance (p : P) : Decidable (bare p) := by unfold bare; infer_instance
def zeros (ds : T) : Prop := ∀ c ∈ ds, c = 48
instance (ds : T) : Decidable (zeros ds) := by unfold zeros; infer_instance
def blankT (p : P) : T := if p.first = 90 then List.replicate (line p).length 32 else (line p).map fun c => if c = 46 then 46 else 42
def leadT (p : P) (b : Bool) : T := p.lead.flatMap fun c => sgn [c] b
def edT (p : P) (ds : T) (b : Bool) : T :=
  if bare p ∧ zeros ds then blankT p
  else leadT p b ++ sgns p (ds.take (bef p)) b ++ (if p.broken = [] then [] else 46 :: ds.drop (bef p)) ++ sgn p.tail b
/-! ### reading -/
def dgt (o : Option Nat) : Nat := match o with | some c => if c ∈ FIG then c else 48 | none => 48
def rdl (fl : Bool) (text : T) : Nat → T → T
  | _, [] => []
  | k, c :: r => (if c ∉ INS ∧ c ≠ 46 ∧ ¬ (k = 0 ∧ fl = true) then [dgt text[k]?] else []) ++ rdl fl text (k + 1) r
theorem rdl_cons (fl : Bool) (text : T) (k c : Nat) (r : T) : rdl fl text k (c :: r) = (if c ∉ INS ∧ c ≠ 46 ∧ ¬ (k = 0 ∧ fl = true) then [dgt text[k]?] else []) ++ rdl fl text (k + 1) r := rfl
def syms (p : P) : T := p.whole ++ dot p
def rdT (p : P) (text : T) : T := rdl (decide (p.first ∈ FLT)) (text.drop p.lead.length) 0 (syms p)
/-! ### figures -/
def dgs : Nat → Nat → T
  | 0, _ => []
  | n + 1, k => dgs n (k / 10) ++ [48 + k % 10]
def num (ds : T) : Nat := ds.foldl (fun a c => a * 10 + (c - 48)) 0
def tx (p : P) (u : Int) : T := edT p (dgs (bef p + beh p) u.natAbs) (decide (u < 0))
/-! ### how a picture is read -/
def frow (f : Nat) : Nat → T → Nat → Nat
  | _, [], en => en
  | k, c :: r, en => if c = f then frow f (k + 1) r (k + 1) else if c ∈ INS then frow f (k + 1) r en else en
theorem frow_cons (f k c : Nat) (r : T) (en : Nat) : frow f k (c :: r) en = if c = f then frow f (k + 1) r (k + 1) else if c ∈ INS then frow f (k + 1) r en else en := rfl
def floatRow (l : T) : Nat := match l with
  | [] => 0
  | c :: _ => if c ∈ FLT then (if 1 < frow c 0 l 0 then frow c 0 l 0 else 0) else 0
def leadOf (l : T) : T :=
  if 0 < floatRow l ∨ ¬ (l.take 1 = [43] ∨ l.take 1 = [45] ∨ l.take 1 = [36]) then []
  else if (l.take 2 = [43, 36] ∨ l.take 2 = [45, 36]) ∧ floatRow (l.drop 1) = 0 then l.take 2 else l.take 1
def tailOf (l : T) : T :=
  if [67, 82] <:+ l ∨ [68, 66] <:+ l then l.drop (l.length - 2)
  else if l.drop (l.length - 1) = [43] ∨ l.drop (l.length - 1) = [45] then l.drop (l.length - 1) else []
def isNum (l : T) : Bool := decide (∀ c ∈ l, c = 57) && (decide (1 ≤ l.length) && decide (l.length ≤ 18))
/-- a whole part's places -/
def Pl (f : Nat) (w : T) : Prop := ∃ a b, plc w = List.replicate a f ++ List.replicate b 57 ∧ 1 ≤ a ∧ (f ∈ FLT → 2 ≤ a) ∧ a + b ≤ 8 ∧ (f = 57 → b = 0)
end BX
namespace BX
theorem dgt_yes {c : Nat} (h : c ∈ FIG) : dgt (some c) = c := if_pos h
theorem ins_ne {c : Nat} (h : c ∈ INS) : c ≠ 57 ∧ c ≠ 90 ∧ c ≠ 42 ∧ c ≠ 43 ∧ c ≠ 45 ∧ c ≠ 36 ∧ c ≠ 46 := by
  simp only [INS, List.mem_cons, List.not_mem_nil, or_false] at h
  omega
theorem f6_ins {c : Nat} (h : c ∈ [57, 90, 42, 43, 45, 36]) : c ∉ INS := by
  simp only [List.mem_cons, List.not_mem_nil, or_false] at h
  simp only [INS, List.mem_cons, List.not_mem_nil, or_false]
  omega
theorem Dr.fins {p : P} (h : Dr p) : p.first ∉ INS := f6_ins h.f6
theorem Dr.sy {p : P} (h : Dr p) : ∀ c ∈ p.whole, c = p.first ∨ c = 57 ∨ c ∈ INS := by
  intro c hc
  obtain ⟨a, b, e, _⟩ := h.pl
  by_cases hi : c ∈ INS
  · exact .inr (.inr hi)
  · have m : c ∈ plc p.whole := List.mem_filter.mpr ⟨hc, by simp [hi]⟩
    rw [e] at m
    rcases List.mem_append.mp m with m | m
    · exact .inl (List.mem_replicate.mp m).2
    · exact .inr (.inl (List.mem_replicate.mp m).2)
theorem Dr.w46 {p : P} (h : Dr p) : 46 ∉ p.whole := fun m => by
  have f := h.f6
  simp only [List.mem_cons, List.not_mem_nil, or_false] at f
  rcases h.sy _ m with e | e | e
  · omega
  · omega
  · exact (ins_ne e).2.2.2.2.2.2 rfl
theorem fnd_len (fl : Bool) : ∀ (w : T) (k : Nat) (l : T), (fnd fl k w l).length = w.length
  | [], _, _ => rfl
  | c :: w, k, l => by
    unfold fnd
    split
    · rw [List.length_cons, fnd_len fl w, List.length_cons]
    · split
      · rw [List.length_cons, fnd_len fl w, List.length_cons]
      · rw [List.length_cons, fnd_len fl w, List.length_cons]
/-- a place: no inserted sign, and not the first of a floating row -/
def isPl (fl : Bool) (k c : Nat) : Prop := c ∉ INS ∧ ¬ (k = 0 ∧ fl = true)
/-- how many places with a figure -/
def cnt (fl : Bool) : Nat → T → Nat
  | _, [] => 0
  | k, c :: w => (if c ∉ INS ∧ ¬ (k = 0 ∧ fl = true) then 1 else 0) + cnt fl (k + 1) w
theorem cnt_cons (fl : Bool) (k c : Nat) (w : T) : cnt fl k (c :: w) = (if c ∉ INS ∧ ¬ (k = 0 ∧ fl = true) then 1 else 0) + cnt fl (k + 1) w := rfl
theorem cnt_pos (fl : Bool) : ∀ (w : T) (k : Nat), 0 < k → cnt fl k w = (plc w).length
  | [], _, _ => rfl
  | c :: w, k, hk => by
    unfold cnt
    have ih := cnt_pos fl w (k + 1) (by omega)
    have hk0 : ¬ (k = 0 ∧ fl = true) := by omega
    by_cases hc : c ∈ INS
    · rw [if_neg (by simp [hc]), ih]
      unfold plc
      rw [List.filter_cons, if_neg (by simp [hc])]
      omega
    · rw [if_pos ⟨hc, hk0⟩, ih]
      unfold plc
      rw [List.filter_cons, if_pos (by simp [hc]), List.length_cons]
      omega
theorem cnt_bef {p : P} (h : Dr p) : cnt (decide (p.first ∈ FLT)) 0 p.whole = bef p := by
  obtain ⟨w, e⟩ := h.hd
  unfold bef
  rw [e]
  unfold cnt
  rw [cnt_pos _ w 1 (by omega)]
  have hp : plc (p.first :: w) = p.first :: plc w := by
    unfold plc
    rw [List.filter_cons, if_pos (by simp [h.fins])]
  rw [hp, List.length_cons]
  by_cases hf : p.first ∈ FLT
  · rw [if_pos hf, if_neg (by simp [hf])]
    omega
  · rw [if_neg hf, if_pos ⟨h.fins, by simp [hf]⟩]
    omega
/-- the figures at the places of zipped signs -/
def rdz (fl : Bool) : Nat → T → T → T
  | _, [], _ => []
  | k, c :: w, s => (if c ∉ INS ∧ ¬ (k = 0 ∧ fl = true) then [dgt s.head?] else []) ++ rdz fl (k + 1) w s.tail
theorem rdz_fnd (fl : Bool) : ∀ (w : T) (k : Nat) (l : T), (∀ c ∈ l, c ∈ FIG) → l.length = cnt fl k w → rdz fl k w (fnd fl k w l) = l
  | [], k, l, _, hl => by
    have : l = [] := List.eq_nil_of_length_eq_zero hl
    rw [this]; rfl
  | c :: w, k, l, hd, hl => by
    unfold cnt at hl
    unfold rdz fnd
    by_cases hc : c ∈ INS
    · rw [if_neg (by simp [hc])] at hl
      rw [if_neg (by simp [hc]), if_pos hc]
      rw [List.tail_cons, List.nil_append]
      exact rdz_fnd fl w (k + 1) l hd (by omega)
    · by_cases h0 : k = 0 ∧ fl = true
      · rw [if_neg (by simp [h0])] at hl
        rw [if_neg (by simp [h0]), if_neg hc, if_pos h0]
        rw [List.tail_cons, List.nil_append]
        exact rdz_fnd fl w (k + 1) l hd (by omega)
      · rw [if_pos ⟨hc, h0⟩] at hl
        rw [if_pos ⟨hc, h0⟩, if_neg hc, if_neg h0]
        cases l with
        | nil => simp at hl; omega
        | cons d l =>
          rw [List.headD_cons, List.tail_cons, List.tail_cons, List.head?_cons]
          rw [rdz_fnd fl w (k + 1) l (fun c m => hd c (List.mem_cons_of_mem _ m)) (by rw [List.length_cons] at hl; omega)]
          have : dgt (some d) = d := dgt_yes (hd d (List.mem_cons_self))
          rw [this]; rfl
theorem rdz_congr (fl : Bool) : ∀ (w : T) (k : Nat) (s t : T), s.length = t.length → (∀ (i : Nat) c, w[i]? = some c → isPl fl (k + i) c → dgt s[i]? = dgt t[i]?) → rdz fl k w s = rdz fl k w t
  | [], _, _, _, _, _ => rfl
  | c :: w, k, s, t, hl, h => by
    unfold rdz
    have e0 : (if c ∉ INS ∧ ¬ (k = 0 ∧ fl = true) then [dgt s.head?] else []) = (if c ∉ INS ∧ ¬ (k = 0 ∧ fl = true) then [dgt t.head?] else []) := by
      by_cases hp : c ∉ INS ∧ ¬ (k = 0 ∧ fl = true)
      · rw [if_pos hp, if_pos hp]
        have := h 0 c rfl hp
        rw [← List.head?_eq_getElem?, ← List.head?_eq_getElem?] at this
        rw [this]
      · rw [if_neg hp, if_neg hp]
    rw [e0]
    congr 1
    refine rdz_congr fl w (k + 1) s.tail t.tail (by rw [List.length_tail, List.length_tail, hl]) fun i d hd hp => ?_
    have := h (i + 1) d (by simpa using hd) (by rw [show k + (i + 1) = k + 1 + i by omega]; exact hp)
    rw [List.getElem?_tail, List.getElem?_tail]
    exact this
/-- the last suppressed place: all figures up to it are 0 -/
theorem lst_zero (fl : Bool) : ∀ (w : T) (k : Nat) (l : T) (cur : Option Nat) (L : Nat), (∀ c, cur = some c → c < k) → lst fl k w l false cur = some L →
    ∀ (i : Nat) c, w[i]? = some c → isPl fl (k + i) c → k + i ≤ L → (fnd fl k w l)[i]? = some 48
  | [], _, _, _, _, _, _, i, c, h, _, _ => by simp at h
  | d :: w, k, l, cur, L, hcur, hL, i, c, hi, hp, hle => by
    unfold lst at hL
    unfold fnd
    by_cases hd : d ∈ INS
    · rw [if_pos hd] at hL ⊢
      cases i with
      | zero => simp at hi; subst hi; exact absurd hd hp.1
      | succ i =>
        rw [List.getElem?_cons_succ] at hi ⊢
        exact lst_zero fl w (k + 1) l cur L (fun c e => by have := hcur c e; omega) hL i c hi (by rw [show k + 1 + i = k + (i + 1) by omega]; exact hp) (by omega)
    · rw [if_neg hd] at hL ⊢
      by_cases h0 : k = 0 ∧ fl = true
      · rw [if_pos h0] at hL ⊢
        cases i with
        | zero => exact absurd h0 (by simpa using hp.2)
        | succ i =>
          rw [List.getElem?_cons_succ] at hi ⊢
          exact lst_zero fl w (k + 1) l (some k) L (fun c e => by cases e; omega) hL i c hi (by rw [show k + 1 + i = k + (i + 1) by omega]; exact hp) (by omega)
      · rw [if_neg h0] at hL ⊢
        by_cases he : d = 57 ∨ l.headD 48 ≠ 48
        · have e1 : (false || decide (d = 57 ∨ l.headD 48 ≠ 48)) = true := by rw [decide_eq_true he]; rfl
          rw [e1, if_pos rfl] at hL
          exfalso
          have hk : ∀ (w : T) (k : Nat) (l : T) (cur : Option Nat), lst fl (k + 1) w l true cur = some L → cur = some L := by
            intro w
            induction w with
            | nil => intro k l cur h; exact h
            | cons e w ih =>
              intro k l cur h
              unfold lst at h
              split at h
              · exact ih _ _ _ h
              · rw [if_neg (by omega)] at h
                rw [Bool.true_or, if_pos rfl] at h
                exact ih _ _ _ h
          have := hcur L (hk _ _ _ _ hL)
          omega
        · have e1 : (false || decide (d = 57 ∨ l.headD 48 ≠ 48)) = false := by rw [decide_eq_false he]; rfl
          rw [e1, if_neg (by simp)] at hL
          cases i with
          | zero =>
            have : l.headD 48 = 48 := by
              by_cases q : l.headD 48 = 48
              · exact q
              · exact absurd (.inr q) he
            rw [List.getElem?_cons_zero, this]
          | succ i =>
            rw [List.getElem?_cons_succ] at hi ⊢
            exact lst_zero fl w (k + 1) l.tail (some k) L (fun c e => by cases e; omega) hL i c hi (by rw [show k + 1 + i = k + (i + 1) by omega]; exact hp) (by omega)
theorem lst_lt (fl : Bool) : ∀ (w : T) (k : Nat) (l : T) (en : Bool) (cur : Option Nat) (L : Nat), (∀ c, cur = some c → c < k) → lst fl k w l en cur = some L → L < k + w.length
  | [], k, l, en, cur, L, hc, h => by have := hc L h; simpa using this
  | d :: w, k, l, en, cur, L, hc, h => by
    unfold lst at h
    rw [List.length_cons]
    have mono : ∀ c, cur = some c → c < k + 1 := fun c e => by have := hc c e; omega
    split at h
    · have := lst_lt fl w (k + 1) l en cur L mono h; omega
    · split at h
      · have := lst_lt fl w (k + 1) l en (some k) L (fun c e => by cases e; omega) h; omega
      · have := lst_lt fl w (k + 1) l.tail _ _ L (fun c e => by split at e <;> first | exact mono c e | (cases e; omega)) h; omega
/-- a floating row has a last suppressed place -/
theorem lst_some (fl : Bool) : ∀ (w : T) (k : Nat) (l : T) (en : Bool) (c : Nat), ∃ L, lst fl k w l en (some c) = some L
  | [], _, _, _, c => ⟨c, rfl⟩
  | d :: w, k, l, en, c => by
    unfold lst
    split
    · exact lst_some fl w _ _ _ _
    · split
      · exact lst_some fl w _ _ _ _
      · split <;> exact lst_some fl w _ _ _ _
theorem takeWhile_take : ∀ (l : T) (i : Nat) (c : Nat), i < (l.takeWhile fun c => decide (c ∈ INS)).length → l[i]? = some c → c ∈ INS
  | [], _, _, h, _ => by simp at h
  | d :: l, i, c, h, e => by
    rw [List.takeWhile_cons] at h
    by_cases hd : d ∈ INS
    · rw [if_pos (by simp [hd]), List.length_cons] at h
      cases i with
      | zero => simp at e; subst e; exact hd
      | succ i => exact takeWhile_take l i c (by omega) (by simpa using e)
    · rw [if_neg (by simp [hd])] at h
      simp at h
/-- between the last suppressed place and the end of the blanks stand inserted signs alone -/
theorem skp_ins (w : T) (k i : Nat) (c : Nat) (h1 : k ≤ i) (h2 : i < skp w k) (e : w[i]? = some c) : c ∈ INS := by
  unfold skp at h2
  refine takeWhile_take (w.drop k) (i - k) c (by omega) ?_
  rw [List.getElem?_drop]
  rw [show k + (i - k) = i by omega]
  exact e
theorem takeWhile_len_le (l : T) (q : Nat → Bool) : (l.takeWhile q).length ≤ l.length := by
  induction l with
  | nil => simp
  | cons a l ih =>
    rw [List.takeWhile_cons]
    split
    · simp only [List.length_cons]; omega
    · simp
theorem skp_le (w : T) (k : Nat) (h : k ≤ w.length) : skp w k ≤ w.length := by
  unfold skp
  have := takeWhile_len_le (w.drop k) fun c => decide (c ∈ INS)
  rw [List.length_drop] at this
  omega
theorem skp_ge (w : T) (k : Nat) : k ≤ skp w k := by unfold skp; omega
theorem skp_step (w : T) (k : Nat) (c : Nat) (e : w[k]? = some c) : skp w k = if c ∈ INS then skp w (k + 1) else k := by
  have hk : k < w.length := (List.getElem?_eq_some_iff.mp e).1
  have hc : w[k] = c := (List.getElem?_eq_some_iff.mp e).2
  have e2 : w.drop k = c :: w.drop (k + 1) := by
    rw [List.drop_eq_getElem_cons hk, hc]
  unfold skp
  rw [e2, List.takeWhile_cons]
  by_cases hi : c ∈ INS
  · rw [if_pos (by simp [hi]), if_pos hi, List.length_cons]; omega
  · rw [if_neg (by simp [hi]), if_neg hi]; rfl
theorem skp_end (w : T) (k : Nat) (h : w.length ≤ k) : skp w k = k := by
  unfold skp
  rw [List.drop_eq_nil_of_le h]; rfl
theorem sgn_float {c : Nat} (h : c ∈ FLT) (b : Bool) : ∃ d, sgn [c] b = [d] ∧ d ∉ FIG := by
  simp only [FLT, List.mem_cons, List.not_mem_nil, or_false] at h
  rcases h with rfl | rfl | rfl <;> cases b
  · exact ⟨43, by decide, by decide⟩
  · exact ⟨45, by decide, by decide⟩
  · exact ⟨32, by decide, by decide⟩
  · exact ⟨45, by decide, by decide⟩
  · exact ⟨36, by decide, by decide⟩
  · exact ⟨36, by decide, by decide⟩
theorem blk_len (p : P) (f : T) (o : Option Nat) (hf : f.length = p.whole.length) (ho : ∀ l, o = some l → l < p.whole.length) : (blk p f o).length = p.whole.length := by
  cases o with
  | none => exact hf
  | some l =>
    have h1 := skp_le p.whole (l + 1) (ho l rfl)
    show (List.replicate (skp p.whole (l + 1)) (fill p) ++ f.drop (skp p.whole (l + 1))).length = _
    rw [List.length_append, List.length_replicate, List.length_drop, hf]
    omega
theorem last_lt (p : P) (ds : T) (l : Nat) (h : last p ds = some l) : l < p.whole.length := by
  have := lst_lt _ p.whole 0 ds false none l (fun c e => by cases e) h
  omega
theorem sgns_len (p : P) (ds : T) (b : Bool) : (sgns p ds b).length = p.whole.length := by
  unfold sgns
  split
  · rw [List.length_set]
    exact blk_len p _ _ (fnd_len _ _ _ _) (last_lt p ds)
  · exact blk_len p _ _ (fnd_len _ _ _ _) (last_lt p ds)
theorem dgt_no {c : Nat} (h : c ∉ FIG) : dgt (some c) = 48 := if_neg h
theorem fill_no (p : P) : fill p ∉ FIG := by unfold fill; split <;> decide
/-- a blanked row reads as the row -/
theorem blk_read {p : P} {ds : T} (fl : Bool) (hfl : fl = decide (p.first ∈ FLT)) (i c : Nat) (hi : p.whole[i]? = some c) (hp : isPl fl i c) :
    dgt (blk p (fnd fl 0 p.whole ds) (last p ds))[i]? = dgt (fnd fl 0 p.whole ds)[i]? := by
  cases hl : last p ds with
  | none => rfl
  | some l =>
    show dgt (List.replicate (skp p.whole (l + 1)) (fill p) ++ (fnd fl 0 p.whole ds).drop (skp p.whole (l + 1)))[i]? = _
    by_cases hlt : i < skp p.whole (l + 1)
    · rw [List.getElem?_append_left (by rw [List.length_replicate]; exact hlt), List.getElem?_replicate, if_pos hlt, dgt_no (fill_no p)]
      by_cases hle : i ≤ l
      · have := lst_zero fl p.whole 0 ds none l (fun c e => by cases e) (by rw [hfl]; exact hl) i c hi (by rw [Nat.zero_add]; exact hp) (by omega)
        rw [this]; rfl
      · exact absurd (skp_ins p.whole (l + 1) i c (by omega) hlt hi) hp.1
    · rw [List.getElem?_append_right (by rw [List.length_replicate]; omega), List.length_replicate, List.getElem?_drop]
      rw [show skp p.whole (l + 1) + (i - skp p.whole (l + 1)) = i by omega]
theorem sgns_read {p : P} {ds : T} (b : Bool) (i c : Nat) (hi : p.whole[i]? = some c) (hp : isPl (decide (p.first ∈ FLT)) i c) :
    dgt (sgns p ds b)[i]? = dgt (fnd (decide (p.first ∈ FLT)) 0 p.whole ds)[i]? := by
  unfold sgns
  by_cases hf : p.first ∈ FLT
  · rw [if_pos hf]
    rw [decide_eq_true hf] at hp ⊢
    have hb := blk_read (p := p) (ds := ds) true (decide_eq_true hf).symm i c hi hp
    by_cases he : skp p.whole ((last p ds).getD 0 + 1) - 1 = i
    · obtain ⟨d, e1, e2⟩ := sgn_float hf b
      have hil : i < (blk p (fnd true 0 p.whole ds) (last p ds)).length := by
        rw [blk_len p _ _ (fnd_len _ _ _ _) (last_lt p ds)]
        exact (List.getElem?_eq_some_iff.mp hi).1
      rw [he, List.getElem?_set_self hil, e1, List.headD_cons, dgt_no e2]
      rw [← hb]
      cases hl : last p ds with
      | none =>
        rw [hl] at he
        obtain ⟨w, ew⟩ := Classical.em (∃ w, p.whole = c :: w) |>.elim id (fun q => by
          exfalso
          cases hw : p.whole with
          | nil => rw [hw] at hi; simp at hi
          | cons x w =>
            -- a floating row has a last place: none is impossible when the first sign is a place
            rw [hw] at hi
            have hlast : last p ds = none := hl
            unfold last at hlast
            rw [hw] at hlast
            unfold lst at hlast
            by_cases hx : x ∈ INS
            · -- then index i-th is reached by blanks of the inserted row: the blanks end there
              rw [hw] at he
              have h1 := skp_ge (x :: w) (Option.getD none 0 + 1)
              simp only [Option.getD_none] at he h1
              have : i < skp (x :: w) (0 + 1) := by omega
              by_cases hi0 : i = 0
              · subst hi0; simp at hi; subst hi; exact hp.1 hx
              · exact hp.1 (skp_ins (x :: w) (0 + 1) i c (by omega) this hi)
            · rw [if_neg hx, decide_eq_true hf, if_pos ⟨rfl, rfl⟩] at hlast
              obtain ⟨L, e⟩ := lst_some true w (0 + 1) ds false 0
              rw [hlast] at e; cases e)
        exfalso
        have hlast : last p ds = none := hl
        unfold last at hlast
        rw [ew] at hlast
        unfold lst at hlast
        rw [if_neg hp.1, decide_eq_true hf, if_pos ⟨rfl, rfl⟩] at hlast
        obtain ⟨L, e⟩ := lst_some true w (0 + 1) ds false 0
        rw [hlast] at e; cases e
      | some l =>
        rw [hl] at he
        have h1 := skp_ge p.whole (l + 1)
        have h2 : skp p.whole (Option.getD (some l) 0 + 1) = skp p.whole (l + 1) := rfl
        rw [h2] at he
        show 48 = dgt (List.replicate (skp p.whole (l + 1)) (fill p) ++ (fnd true 0 p.whole ds).drop (skp p.whole (l + 1)))[i]?
        rw [List.getElem?_append_left (by rw [List.length_replicate]; omega), List.getElem?_replicate, if_pos (by omega), dgt_no (fill_no p)]
    · rw [List.getElem?_set_ne he]
      exact hb
  · rw [if_neg hf]
    rw [decide_eq_false hf] at hp ⊢
    exact blk_read (p := p) (ds := ds) false (decide_eq_false hf).symm i c hi hp
/-! ### reading over appended parts -/
theorem rdl_append (fl : Bool) (text : T) : ∀ (a b : T) (k : Nat), rdl fl text k (a ++ b) = rdl fl text k a ++ rdl fl text (k + a.length) b
  | [], b, k => by simp [rdl]
  | c :: a, b, k => by
    show _ ++ rdl fl text (k + 1) (a ++ b) = (_ ++ rdl fl text (k + 1) a) ++ _
    rw [rdl_append fl text a b (k + 1), List.append_assoc, List.length_cons, show k + 1 + a.length = k + (a.length + 1) by omega]
theorem rdl_rdz (fl : Bool) (text : T) : ∀ (w : T) (k : Nat), 46 ∉ w → rdl fl text k w = rdz fl k w (text.drop k)
  | [], _, _ => rfl
  | c :: w, k, h => by
    unfold rdl rdz
    have hc : c ≠ 46 := fun e => h (by rw [e]; exact List.mem_cons_self)
    rw [rdl_rdz fl text w (k + 1) (fun m => h (List.mem_cons_of_mem _ m)), List.tail_drop, List.head?_drop]
    by_cases q : c ∉ INS ∧ ¬ (k = 0 ∧ fl = true)
    · rw [if_pos ⟨q.1, hc, q.2⟩, if_pos q]
    · rw [if_neg (fun z => q ⟨z.1, z.2.2⟩), if_neg q]
theorem rdz_append (fl : Bool) : ∀ (w : T) (k : Nat) (s t : T), s.length = w.length → rdz fl k w (s ++ t) = rdz fl k w s
  | [], _, _, _, _ => rfl
  | c :: w, k, s, t, h => by
    cases s with
    | nil => simp at h
    | cons d s =>
      unfold rdz
      rw [List.cons_append, List.head?_cons, List.head?_cons, List.tail_cons, List.tail_cons, rdz_append fl w (k + 1) s t (by simpa using h)]
/-- broken figures, as they stand -/
theorem rdz_all (fl : Bool) : ∀ (w : T) (k : Nat) (s : T), 0 < k → (∀ c ∈ w, c ∉ INS) → (∀ c ∈ s, c ∈ FIG) → s.length = w.length → rdz fl k w s = s
  | [], _, s, _, _, _, h => by rw [List.eq_nil_of_length_eq_zero h]; rfl
  | c :: w, k, s, hk, hw, hs, h => by
    cases s with
    | nil => simp at h
    | cons d s =>
      unfold rdz
      rw [if_pos ⟨hw c List.mem_cons_self, by omega⟩, List.head?_cons, List.tail_cons,
        rdz_all fl w (k + 1) s (by omega) (fun c m => hw c (List.mem_cons_of_mem _ m)) (fun c m => hs c (List.mem_cons_of_mem _ m)) (by simpa using h)]
      have : dgt (some d) = d := dgt_yes (hs d List.mem_cons_self)
      rw [this]; rfl
theorem sgn_len1 (c : Nat) (b : Bool) : (sgn [c] b).length = 1 := by
  unfold sgn
  split
  · cases b <;> rfl
  · split
    · cases b <;> rfl
    · split
      · rename_i h; simp at h
      · rfl
theorem leadT_len (p : P) (b : Bool) : (leadT p b).length = p.lead.length := by
  unfold leadT
  induction p.lead with
  | nil => rfl
  | cons c l ih => rw [List.flatMap_cons, List.length_append, sgn_len1, ih, List.length_cons]; omega
theorem Dr.brp {p : P} (h : Dr p) : ∀ c ∈ p.broken, c ∉ INS ∧ c ≠ 46 := by
  intro c hc
  rcases h.br with ⟨n, _, e⟩ | ⟨h1, _, n, _, e⟩
  · rw [e] at hc
    rw [(List.mem_replicate.mp hc).2]
    decide
  · rw [e] at hc
    rw [(List.mem_replicate.mp hc).2]
    rcases h1 with h1 | h1 <;> rw [h1] <;> decide
/-- places without a figure read as noughts -/
theorem rdl_zero (fl : Bool) (text : T) (ht : ∀ c ∈ text, c ∉ FIG) : ∀ (w : T) (k : Nat), rdl fl text k w = List.replicate (rdl fl text k w).length 48
  | [], _ => rfl
  | c :: w, k => by
    have ih := rdl_zero fl text ht w (k + 1)
    unfold rdl
    by_cases q : c ∉ INS ∧ c ≠ 46 ∧ ¬ (k = 0 ∧ fl = true)
    · rw [if_pos q]
      have : dgt text[k]? = 48 := by
        cases e : text[k]? with
        | none => rfl
        | some d => exact dgt_no (ht d (List.mem_of_getElem? e))
      rw [this]
      show 48 :: rdl fl text (k + 1) w = List.replicate ((rdl fl text (k + 1) w).length + 1) 48
      rw [List.replicate_succ, ← ih]
    · rw [if_neg q, List.nil_append]
      exact ih
theorem rdl_len (fl : Bool) (text text' : T) : ∀ (w : T) (k : Nat), (rdl fl text k w).length = (rdl fl text' k w).length
  | [], _ => rfl
  | c :: w, k => by
    unfold rdl
    rw [List.length_append, List.length_append, rdl_len fl text text' w (k + 1)]
    split <;> rfl
theorem read_main {p : P} (h : Dr p) {ds : T} {b : Bool} (hd : ∀ c ∈ ds, c ∈ FIG) (hl : ds.length = bef p + beh p) (tl : T) :
    rdT p (leadT p b ++ sgns p (ds.take (bef p)) b ++ (if p.broken = [] then [] else 46 :: ds.drop (bef p)) ++ tl) = ds := by
  unfold rdT
  rw [List.append_assoc, List.append_assoc, List.drop_append_of_le_length (by rw [leadT_len]; exact Nat.le_refl _)]
  have e0 : (leadT p b).drop p.lead.length = [] := List.drop_eq_nil_of_le (by rw [leadT_len]; exact Nat.le_refl _)
  rw [e0, List.nil_append]
  unfold syms
  rw [rdl_append, rdl_rdz _ _ _ _ h.w46, List.drop_zero, rdz_append _ _ _ _ _ (sgns_len p _ b)]
  have e1 : rdz (decide (p.first ∈ FLT)) 0 p.whole (sgns p (ds.take (bef p)) b) = ds.take (bef p) := by
    rw [rdz_congr _ p.whole 0 _ (fnd (decide (p.first ∈ FLT)) 0 p.whole (ds.take (bef p))) (by rw [sgns_len, fnd_len]) fun i c hi hp => ?_]
    · refine rdz_fnd _ _ _ _ (fun c m => hd c (List.mem_of_mem_take m)) ?_
      rw [cnt_bef h, List.length_take, hl]
      omega
    · rw [Nat.zero_add] at hp
      exact sgns_read b i c hi hp
  rw [e1]
  by_cases hb : p.broken = []
  · have e2 : ds.drop (bef p) = [] := List.drop_eq_nil_of_le (by rw [hl]; unfold beh; rw [hb]; simp)
    have e3 := List.take_append_drop (bef p) ds
    rw [e2] at e3
    have e4 : dot p = [] := by unfold dot; rw [if_pos hb]
    rw [e4]
    exact e3
  · have ed : dot p = 46 :: p.broken := by unfold dot; rw [if_neg hb]
    rw [ed, if_neg hb]
    have e4 : rdl (decide (p.first ∈ FLT)) (sgns p (ds.take (bef p)) b ++ (46 :: ds.drop (bef p) ++ tl)) (0 + p.whole.length) (46 :: p.broken) = ds.drop (bef p) := by
      show (if (46 : Nat) ∉ INS ∧ (46 : Nat) ≠ 46 ∧ _ then _ else []) ++ rdl _ _ (0 + p.whole.length + 1) p.broken = _
      rw [if_neg (by simp), List.nil_append, rdl_rdz _ _ _ _ (fun m => (h.brp _ m).2 rfl)]
      have e5 : (sgns p (ds.take (bef p)) b ++ (46 :: ds.drop (bef p) ++ tl)).drop (0 + p.whole.length + 1) = ds.drop (bef p) ++ tl := by
        rw [show 0 + p.whole.length + 1 = (sgns p (ds.take (bef p)) b).length + 1 by rw [sgns_len]; omega]
        rw [List.drop_append, List.drop_eq_nil_of_le (by omega), List.nil_append]
        rw [show (sgns p (ds.take (bef p)) b).length + 1 - (sgns p (ds.take (bef p)) b).length = 1 by omega]
        rfl
      rw [e5]
      have hlen : (ds.drop (bef p)).length = p.broken.length := by rw [List.length_drop, hl]; unfold beh; omega
      rw [rdz_append _ _ _ _ _ hlen]
      exact rdz_all _ _ _ _ (by omega) (fun c m => (h.brp c m).1) (fun c m => hd c (List.mem_of_mem_drop m)) hlen
    rw [e4]
    exact List.take_append_drop (bef p) ds
theorem blankT_no (p : P) : ∀ c ∈ blankT p, c ∉ FIG := by
  intro c hc
  unfold blankT at hc
  split at hc
  · rw [(List.mem_replicate.mp hc).2]; decide
  · obtain ⟨d, _, e⟩ := List.mem_map.mp hc
    rw [← e]
    split <;> decide
/-- what is edited reads back its figures -/
theorem read_edit {p : P} (h : Dr p) {ds : T} {b : Bool} (hd : ∀ c ∈ ds, c ∈ FIG) (hl : ds.length = bef p + beh p) : rdT p (edT p ds b) = ds := by
  unfold edT
  by_cases hz : bare p ∧ zeros ds
  · rw [if_pos hz]
    have h1 := read_main (b := b) h hd hl []
    have h2 : (rdT p (blankT p)).length = ds.length := by
      rw [← h1]
      exact rdl_len _ _ _ _ _
    have h3 : rdT p (blankT p) = List.replicate (rdT p (blankT p)).length 48 := rdl_zero _ _ (fun c m => blankT_no p c (List.mem_of_mem_drop m)) _ _
    rw [h3, h2]
    exact (List.eq_replicate_iff.mpr ⟨rfl, hz.2⟩).symm
  · rw [if_neg hz]
    exact read_main h hd hl _
/-! ### the sign -/
theorem sgn_tail_len {p : P} (h : Dr p) (b : Bool) : (sgn p.tail b).length = p.tail.length := by
  have := h.tl
  simp only [List.mem_cons, List.not_mem_nil, or_false] at this
  rcases this with e | e | e | e | e <;> rw [e] <;> cases b <;> decide
theorem sgn_same {y : T} (h : y ≠ [43] ∧ y ≠ [45] ∧ y ≠ [67, 82] ∧ y ≠ [68, 66]) (b c : Bool) : sgn y b = sgn y c := by
  unfold sgn
  rw [if_neg h.1, if_neg h.2.1, if_neg (by simp [h.2.2.1, h.2.2.2]), if_neg h.1, if_neg h.2.1, if_neg (by simp [h.2.2.1, h.2.2.2])]
/-- without a sign both are edited alike -/
theorem edit_nosign {p : P} (h : shows p = false) (ds : T) (b c : Bool) : edT p ds b = edT p ds c := by
  unfold shows at h
  simp only [decide_eq_false_iff_not, not_or, Decidable.not_not] at h
  obtain ⟨h1, h2, h3, h4, h5⟩ := h
  have e1 : leadT p b = leadT p c := by
    unfold leadT
    have : ∀ l : T, 43 ∉ l → 45 ∉ l → (l.flatMap fun d => sgn [d] b) = l.flatMap fun d => sgn [d] c := by
      intro l
      induction l with
      | nil => intros; rfl
      | cons d l ih =>
        intro h1 h2
        rw [List.flatMap_cons, List.flatMap_cons, ih (fun m => h1 (List.mem_cons_of_mem _ m)) (fun m => h2 (List.mem_cons_of_mem _ m))]
        rw [sgn_same (b := b) (c := c) ⟨fun e => h1 (by injection e with e; rw [e]; exact List.mem_cons_self), fun e => h2 (by injection e with e; rw [e]; exact List.mem_cons_self), by simp, by simp⟩]
    exact this _ h1 h2
  have e2 : sgns p (ds.take (bef p)) b = sgns p (ds.take (bef p)) c := by
    unfold sgns
    rw [sgn_same (b := b) (c := c) ⟨by simpa using h3, by simpa using h4, by simp, by simp⟩]
  have e3 : sgn p.tail b = sgn p.tail c := by rw [h5]; cases b <;> cases c <;> decide
  unfold edT
  rw [e1, e2, e3]
theorem set_ne {l : T} {i x y : Nat} (hi : i < l.length) (hne : x ≠ y) : l.set i x ≠ l.set i y := fun e => by
  have h1 := congrArg (fun l : T => l[i]?) e
  simp only [List.getElem?_set_self hi] at h1
  exact hne (Option.some.inj h1)
/-- with a sign they are not -/
theorem edit_sign {p : P} (h : Dr p) (hs : shows p = true) (ds : T) (hz : ¬ zeros ds) : edT p ds true ≠ edT p ds false := by
  intro e
  have hz2 : ¬ (bare p ∧ zeros ds) := fun z => hz z.2
  unfold edT at e
  rw [if_neg hz2, if_neg hz2] at e
  obtain ⟨e, et⟩ := List.append_inj e (by
    simp only [List.length_append, leadT_len, sgns_len])
  obtain ⟨e, _⟩ := List.append_inj e (by simp only [List.length_append, leadT_len, sgns_len])
  obtain ⟨el, es⟩ := List.append_inj e (by simp only [leadT_len])
  unfold shows at hs
  have hs := of_decide_eq_true hs
  have hld := h.ld
  simp only [List.mem_cons, List.not_mem_nil, or_false] at hld
  have lead_no : 43 ∉ p.lead ∧ 45 ∉ p.lead := by
    unfold leadT at el
    rcases hld with q | q | q | q | q | q <;> rw [q] at el ⊢ <;> revert el <;> decide
  have tail_no : p.tail = [] := by
    have htl := h.tl
    simp only [List.mem_cons, List.not_mem_nil, or_false] at htl
    rcases htl with q | q | q | q | q <;> rw [q] at et ⊢ <;> revert et <;> decide
  have f_no : p.first ≠ 43 ∧ p.first ≠ 45 := by
    have key : p.first = 43 ∨ p.first = 45 → False := fun hf => by
      have hF : p.first ∈ FLT := by rcases hf with q | q <;> rw [q] <;> decide
      unfold sgns at es
      rw [if_pos hF, if_pos hF] at es
      refine set_ne ?_ ?_ es
      · rw [blk_len p _ _ (fnd_len _ _ _ _) (last_lt p _)]
        obtain ⟨w, ew⟩ := h.hd
        have hlen : 0 < p.whole.length := by rw [ew]; simp
        have hl : (last p (ds.take (bef p))).getD 0 + 1 ≤ p.whole.length := by
          cases hq : last p (ds.take (bef p)) with
          | none => show 0 + 1 ≤ _; omega
          | some l => exact last_lt p _ l hq
        have := skp_le p.whole _ hl
        have := skp_ge p.whole ((last p (ds.take (bef p))).getD 0 + 1)
        omega
      · rcases hf with q | q <;> rw [q] <;> decide
    exact ⟨fun q => key (.inl q), fun q => key (.inr q)⟩
  rcases hs with q | q | q | q | q
  · exact lead_no.1 q
  · exact lead_no.2 q
  · exact f_no.1 q
  · exact f_no.2 q
  · exact q tail_no
/-! ### figures -/
theorem dgs_len : ∀ (n k : Nat), (dgs n k).length = n
  | 0, _ => rfl
  | n + 1, k => by unfold dgs; rw [List.length_append, dgs_len n, List.length_singleton]
theorem dgs_fig : ∀ (n k : Nat), ∀ c ∈ dgs n k, c ∈ FIG
  | 0, _, c, h => by simp [dgs] at h
  | n + 1, k, c, h => by
    unfold dgs at h
    rcases List.mem_append.mp h with h | h
    · exact dgs_fig n _ c h
    · have e : c = 48 + k % 10 := List.mem_singleton.mp h
      have : k % 10 < 10 := Nat.mod_lt _ (by decide)
      simp only [FIG, List.mem_cons, List.not_mem_nil, or_false]
      omega
theorem num_snoc (l : T) (c : Nat) : num (l ++ [c]) = num l * 10 + (c - 48) := by unfold num; rw [List.foldl_append]; rfl
theorem num_dgs : ∀ (n k : Nat), k < 10 ^ n → num (dgs n k) = k
  | 0, k, h => by
    have : k = 0 := by simpa using h
    rw [this]; rfl
  | n + 1, k, h => by
    unfold dgs
    have h2 : k / 10 < 10 ^ n := by rw [Nat.pow_succ] at h; omega
    rw [num_snoc, num_dgs n (k / 10) h2]
    omega
theorem dgs_zero : ∀ (n : Nat), zeros (dgs n 0)
  | 0, c, h => by simp [dgs] at h
  | n + 1, c, h => by
    unfold dgs at h
    rcases List.mem_append.mp h with h | h
    · exact dgs_zero n c h
    · exact List.mem_singleton.mp h
theorem zeros_num : ∀ (n k : Nat), k < 10 ^ n → zeros (dgs n k) → k = 0
  | 0, k, h, _ => by simpa using h
  | n + 1, k, h, hz => by
    have h2 : k / 10 < 10 ^ n := by rw [Nat.pow_succ] at h; omega
    have e := zeros_num n (k / 10) h2 fun c m => hz c (by unfold dgs; exact List.mem_append_left _ m)
    have e2 := hz (48 + k % 10) (by unfold dgs; exact List.mem_append_right _ (List.mem_singleton.mpr rfl))
    omega
/-! ### the laws -/
theorem tx_read {p : P} (h : Dr p) (u : Int) : rdT p (tx p u) = dgs (bef p + beh p) u.natAbs :=
  read_edit h (dgs_fig _ _) (dgs_len _ _)
theorem tx_abs {p : P} (h : Dr p) {u v : Int} (hu : u.natAbs < 10 ^ (bef p + beh p)) (hv : v.natAbs < 10 ^ (bef p + beh p)) (e : tx p u = tx p v) : u.natAbs = v.natAbs := by
  have := congrArg num (congrArg (rdT p) e)
  rw [tx_read h, tx_read h, num_dgs _ _ hu, num_dgs _ _ hv] at this
  exact this
theorem tx_inj {p : P} (h : Dr p) (hs : shows p = true) {u v : Int} (hu : u.natAbs < 10 ^ (bef p + beh p)) (hv : v.natAbs < 10 ^ (bef p + beh p)) (e : tx p u = tx p v) : u = v := by
  have ea := tx_abs h hu hv e
  by_cases hne : u = v
  · exact hne
  · exfalso
    have h0 : u.natAbs ≠ 0 := by omega
    have hz : ¬ zeros (dgs (bef p + beh p) u.natAbs) := fun z => h0 (zeros_num _ _ hu z)
    have ks := edit_sign h hs _ hz
    unfold tx at e
    rw [← ea] at e
    by_cases hu0 : u < 0
    · have hv0 : ¬ v < 0 := by omega
      rw [decide_eq_true hu0, decide_eq_false hv0] at e
      exact ks e
    · have hv0 : v < 0 := by omega
      rw [decide_eq_false hu0, decide_eq_true hv0] at e
      exact ks e.symm
theorem tx_neg {p : P} (hs : shows p = false) {u v : Int} (e : u.natAbs = v.natAbs) : tx p u = tx p v := by
  unfold tx
  rw [e]
  exact edit_nosign hs _ _ _
end BX
/-! own rules over the hand layer -/
namespace BXR
open PySem PySem.Spec PyProof.Rows L2
/-! ### enumerate(text) -/
def IteS (x : Str) : It := ⟨fun i _ => i < x.cps.size, fun i H v H' => ∃ T c, v = .ref T ∧ H T = none ∧ H' = upd H T (.tup [.int (i : Nat), .str ⟨#[c]⟩]) ∧ x.cps[i]? = some c, fun i _ => i = x.cps.size⟩
theorem turn_enumS {P : Program} {w : World} {K : PySem.W.Frag} {elts : List Expr} {kk : Nat} {tpos : Pos} (e it : Addr) (x : Str) (t : Tok) (ty : String) (hty : ty = "str_ascii_iterator" ∨ ty = "str_iterator") :
    Turn P w K (.Tuple elts kk tpos) (IteS x) [e, it] e (fun i h => (∃ old, IsEnum h e it ((i : Nat) : Int) old) ∧ h.IsStrIter it ty x t i ∧ e ≠ it) where
  mem := by simp
  obj := fun i h st b hb => by
    obtain ⟨⟨old, he⟩, ⟨o, ho, hc, hd⟩, _⟩ := st
    have e' : b = e ∨ b = it := by simpa using hb
    rcases e' with z | z
    · rw [z]; exact ⟨_, he, fun v q => nomatch q⟩
    · rw [z]; exact ⟨o, ho, fun v q => by rw [hd] at q; cases q⟩
  keep := fun i h h' st k => let ⟨⟨old, he⟩, ⟨o, ho, r⟩, hne⟩ := st; ⟨⟨old, k e (by simp) _ he⟩, ⟨o, k it (by simp) o ho, r⟩, hne⟩
  item := by
    intro X hP hw hK hc i pins s σ H E I hf st hg
    subst hP hw hK
    obtain ⟨⟨old, he⟩, hit, hne⟩ := st
    have D : Draws X.prog X.w X.A.in1 it [it] x.cps.size (fun i v => ∃ c u, x.cps[i]? = some c ∧ v = .str ⟨#[c]⟩ u) (fun i h => h.IsStrIter it ty x t i) := by
      rcases hty with z | z
      · rw [z]; exact Draws.strAscii (A := X.A.in1) (I.ok.hd hc) it x t
      · rw [z]; exact Draws.strWide (A := X.A.in1) (I.ok.hd hc) it x t
    have hel : e < s.heap.objs.size := Heap.lt_size he
    have hil : it < s.heap.objs.size := by obtain ⟨_, q, _⟩ := hit; exact Heap.lt_size q
    refine wpAny_pyNext_enum_itemD D he hit hg hne (by simpa using hne) fun v h' tk hP ho hit' hT hsz hk => ?_
    obtain ⟨c, u, hcx, rfl⟩ := hP
    refine ⟨_, rfl, wpAny_letOwnedTupleGo_enum (s := { s with heap := h', toks := tk + 1 }) ho fun h'' he' sb => ?_⟩
    have hT2 : h''.get? s.heap.objs.size = some { cls := .type "tuple", data := .seq #[.int i tk, .str ⟨#[c]⟩ u] } := (sb.2 _ (Nat.ne_of_gt hel)).trans hT
    have new : ObjOk X.prog X.w (upd H s.heap.objs.size (.tup [.int (i : Nat), .str ⟨#[c]⟩])) h'' s.heap.objs.size (.tup [.int (i : Nat), .str ⟨#[c]⟩]) :=
      ⟨by show 2 ≤ sizeLine; decide, [.int i tk, .str ⟨#[c]⟩ u], .cons ⟨_, rfl⟩ (.cons ⟨_, rfl⟩ .nil), ⟨_, hT2, rfl, _, rfl⟩⟩
    have I1 : Inv X pins σ (upd H s.heap.objs.size (.tup [.int (i : Nat), .str ⟨#[c]⟩])) { s with heap := h'', toks := tk + 1 } :=
      I.turnedNew (ch := [e, it]) (fun b ob hb q => (sb.2 b (fun z => hb (by simp [z]))).trans (hk b ob (fun z => hb (by simp [z])) (fun z => hb (by simp [z])) q)) hf (Nat.le_refl _) new
    refine ⟨.ref s.heap.objs.size, _, I1, rfl, ⟨_, c, rfl, I.hok.fresh (Nat.le_refl _), rfl, hcx⟩, ⟨⟨.str ⟨#[c]⟩ u, ?_⟩, ?_, hne⟩, fun b hb => ?_⟩
    · have e1 : ((i + 1 : Nat) : Int) = (i : Int) + 1 := by omega
      rw [e1]; exact he'
    · obtain ⟨o, q, r⟩ := hit'
      exact ⟨o, (sb.2 it (Ne.symm hne)).trans q, r⟩
    · have hb' : b < s.heap.objs.size := by
        have e' : b = e ∨ b = it := by simpa using hb
        rcases e' with z | z
        · rw [z]; exact hel
        · rw [z]; exact hil
      rw [upd_ne (Nat.ne_of_lt hb')]
      exact (hf b hb).1
  done := by
    intro X hP hw hK hc i pins s σ H E I hf st hg
    subst hP hw hK
    obtain ⟨⟨old, he⟩, hit, hne⟩ := st
    have D : Draws X.prog X.w X.A.in1 it [it] x.cps.size (fun i v => ∃ c u, x.cps[i]? = some c ∧ v = .str ⟨#[c]⟩ u) (fun i h => h.IsStrIter it ty x t i) := by
      rcases hty with z | z
      · rw [z]; exact Draws.strAscii (A := X.A.in1) (I.ok.hd hc) it x t
      · rw [z]; exact Draws.strWide (A := X.A.in1) (I.ok.hd hc) it x t
    have hg : i = x.cps.size := hg
    subst hg
    obtain ⟨f0, f1, f2, f3, f4, f5⟩ := hf it (by simp)
    exact wpAny_pyNext_enum_endD D he hit fun h' eb => ⟨rfl, I.turned (t' := s.toks) (fun b o hb q => eb b o hb q) f0 f1 f3 f4 f5⟩
  self := fun A i s Q E st h => let ⟨⟨_, he⟩, _⟩ := st; wpAny_pyIter_enum he h
def iEnumS (ta : TA) : TI := fun σ H R => ta σ H fun vs H1 => ∃ x, vs = [.str x] ∧ R (IteS x) H1
theorem pi_enumS {X : Cx} {e : Expr} {ta : TA} {p pos tpos : Pos} {elts : List Expr} {kk : Nat} (hg : Gl X "enumerate") (hm : X.mg "enumerate" = none) (ha : PA X [e] ta) (hs : starEach [e] X.env = [(false, eval e X.env)] := by rfl) :
    PI X (.Tuple elts kk tpos) (.Call (.Name "enumerate" p) [e] [] pos) (iEnumS ta) := by
  refine ⟨fun pins s σ H R I h => ?_⟩
  refine Call_ (ld_blt I hg hm boot_enumerate (PyProof.Rows.callWith_type1 (thn (ha.run pos pins s σ H _ I h) fun us s1 ⟨vs, H1, I1, r1, q1⟩ => ?_) hs rfl))
  obtain ⟨x, ex, q⟩ := q1
  subst ex
  cases r1 with
  | cons r rr =>
    cases rr
    obtain ⟨t, rfl⟩ := r
    refine call_enumerate_str fun h' he hit hsz hk => wpAny_pyIter_enum he ?_
    have I2 : Inv X pins σ H1 { s1 with heap := h' } := I1.kept (t' := s1.toks) hk
    have hty : strIterType x = "str_ascii_iterator" ∨ strIterType x = "str_iterator" := by
      unfold strIterType; split
      · exact .inl rfl
      · exact .inr rfl
    refine ⟨s1.heap.objs.size + 1, [s1.heap.objs.size + 1, s1.heap.objs.size], _, _, H1, rfl, I2, turn_enumS (s1.heap.objs.size + 1) s1.heap.objs.size x t _ hty, ⟨⟨.none, he⟩, hit, Nat.succ_ne_self _⟩, fun b hb => ?_, q⟩
    have e' : b = s1.heap.objs.size + 1 ∨ b = s1.heap.objs.size := by simpa using hb
    have hle : s1.heap.objs.size ≤ b := by
      rcases e' with z | z
      · rw [z]; exact Nat.le_add_right _ _
      · rw [z]; exact Nat.le_refl _
    exact I1.fpOk hle (I1.hok.fresh hle)
/-- the text of these signs -/
def S (l : List Nat) : Str := ⟨l.toArray⟩
theorem S_get {l : List Nat} {i c : Nat} (h : (S l).cps[i]? = some c) : l[i]? = some c := by simpa [S] using h
theorem S_size {l : List Nat} : (S l).cps.size = l.length := by simp [S]
theorem S_len {l : List Nat} : (S l).length = l.length := S_size
/-- for i, c in enumerate(text) -/
theorem for_enumS {l : List Nat} {g : TG} {tb : TS} {D : Ends} {σ : L2.St} {H : Hp} (Pv : Nat → L2.St → Hp → Prop) (h0 : Pv 0 σ H)
    (hs : ∀ i c σ H T, l[i]? = some c → Pv i σ H → H T = none → g (.ref T) σ (upd H T (.tup [.int (i : Nat), .str (S [c])])) fun σ2 H2 => tb { D with nx := Pv (i + 1), ct := Pv (i + 1), bk := D.nx } σ2 H2) (hd : ∀ σ H, Pv l.length σ H → D.nx σ H) :
    ∃ W : Nat → Nat → L2.St → Hp → Prop, (∃ m, W 0 m σ H) ∧ ∀ i m σ H, W i m σ H →
      ((IteS (S l)).stop i H ∧ D.nx σ H) ∨ ((IteS (S l)).go i H ∧ ∃ N : L2.St → Hp → Prop, (∀ σ' H', N σ' H' → ∃ m', m' < m ∧ W (i + 1) m' σ' H') ∧ ∀ x H', (IteS (S l)).yld i H x H' → g x σ H' fun σ2 H2 => tb { D with nx := N, ct := N, bk := D.nx } σ2 H2) := by
  refine ⟨fun i m σ H => m = l.length - i ∧ i ≤ l.length ∧ Pv i σ H, ⟨l.length, by simp, Nat.zero_le _, h0⟩, ?_⟩
  rintro i m σ H ⟨rfl, hi, p⟩
  by_cases hlt : i < l.length
  · refine .inr ⟨by show i < (S l).cps.size; rw [S_size]; exact hlt, Pv (i + 1), fun σ' H' p' => ⟨l.length - (i + 1), by omega, rfl, hlt, p'⟩, fun x H' y => ?_⟩
    obtain ⟨T, c, rfl, hT, rfl, hc⟩ := y
    exact hs i c σ H T (S_get hc) p hT
  · have e : i = l.length := by omega
    refine .inl ⟨by show i = (S l).cps.size; rw [S_size]; exact e, hd σ H (e ▸ p)⟩
/-- for c in text -/
theorem for_str {l : List Nat} {g : TG} {tb : TS} {D : Ends} {σ : L2.St} {H : Hp} (Pv : Nat → L2.St → Hp → Prop) (h0 : Pv 0 σ H)
    (hs : ∀ i c σ H, l[i]? = some c → Pv i σ H → g (.str (S [c])) σ H fun σ2 H2 => tb { D with nx := Pv (i + 1), ct := Pv (i + 1), bk := D.nx } σ2 H2) (hd : ∀ σ H, Pv l.length σ H → D.nx σ H) :
    ∃ W : Nat → Nat → L2.St → Hp → Prop, (∃ m, W 0 m σ H) ∧ ∀ i m σ H, W i m σ H →
      ((Its (S l)).stop i H ∧ D.nx σ H) ∨ ((Its (S l)).go i H ∧ ∃ N : L2.St → Hp → Prop, (∀ σ' H', N σ' H' → ∃ m', m' < m ∧ W (i + 1) m' σ' H') ∧ ∀ x H', (Its (S l)).yld i H x H' → g x σ H' fun σ2 H2 => tb { D with nx := N, ct := N, bk := D.nx } σ2 H2) := by
  refine ⟨fun i m σ H => m = l.length - i ∧ i ≤ l.length ∧ Pv i σ H, ⟨l.length, by simp, Nat.zero_le _, h0⟩, ?_⟩
  rintro i m σ H ⟨rfl, hi, p⟩
  by_cases hlt : i < l.length
  · refine .inr ⟨by show i < (S l).cps.size; rw [S_size]; exact hlt, Pv (i + 1), fun σ' H' p' => ⟨l.length - (i + 1), by omega, rfl, hlt, p'⟩, fun x H' y => ?_⟩
    obtain ⟨rfl, c, hc, rfl⟩ := y
    exact hs i c σ _ (S_get hc) p
  · have e : i = l.length := by omega
    refine .inl ⟨by show (S l).cps.size ≤ i; rw [S_size]; omega, hd σ H (e ▸ p)⟩
/-- a comprehension over a text -/
theorem lc_str {l : List Nat} {g : TG} {tt : TT} {te : TE} {vs : List Nat} {σ : L2.St} {Qd : Hp → Prop} {D : Addr} {H : Hp} (Pv : Nat → Hp → Prop) (h0 : Pv 0 (upd H D (.lst [])))
    (hs : ∀ i c H, l[i]? = some c → Pv i H → g (.str (S [c])) (wipe σ vs) H fun σ2 H2 => wipe σ2 vs = wipe σ vs ∧ tt σ2 H2 fun b H3 =>
      if b = true then te σ2 H3 fun y H4 => ∃ acc, H4 D = some (.lst acc) ∧ acc.length < sizeLine ∧ Pv (i + 1) (upd H4 D (.lst (acc ++ [y]))) else Pv (i + 1) H3) (hd : ∀ H, Pv l.length H → Qd H) :
    ∃ W : Nat → Nat → Hp → Prop, (∃ m, W 0 m (upd H D (.lst []))) ∧ ∀ i m H, W i m H →
      ((Its (S l)).stop i H ∧ Qd H) ∨ ((Its (S l)).go i H ∧ ∃ Nx : Hp → Prop, (∀ H', Nx H' → ∃ m', m' < m ∧ W (i + 1) m' H') ∧ ∀ x H', (Its (S l)).yld i H x H' → g x (wipe σ vs) H' fun σ2 H2 => wipe σ2 vs = wipe σ vs ∧ tt σ2 H2 fun b H3 =>
        if b = true then te σ2 H3 fun y H4 => ∃ acc, H4 D = some (.lst acc) ∧ acc.length < sizeLine ∧ Nx (upd H4 D (.lst (acc ++ [y]))) else Nx H3) := by
  refine ⟨fun i m H => m = l.length - i ∧ i ≤ l.length ∧ Pv i H, ⟨l.length, by simp, Nat.zero_le _, h0⟩, ?_⟩
  rintro i m H ⟨rfl, hi, p⟩
  by_cases hlt : i < l.length
  · refine .inr ⟨by show i < (S l).cps.size; rw [S_size]; exact hlt, Pv (i + 1), fun H' p' => ⟨l.length - (i + 1), by omega, rfl, hlt, p'⟩, fun x H' y => ?_⟩
    obtain ⟨rfl, c, hc, rfl⟩ := y
    exact hs i c _ (S_get hc) p
  · have e : i = l.length := by omega
    refine .inl ⟨by show (S l).cps.size ≤ i; rw [S_size]; omega, hd H (e ▸ p)⟩
/-! ### text * n -/
theorem op_mulS {X : Cx} : OpR X (binaryOp .Mult) (fun x y H Q => ∃ z n, x = .str z ∧ y = .int n ∧ MulOk z n ∧ Q (.str (Txt.mul z n)) H) := by
  intro pins s σ H x y v u Q I rx ry h
  obtain ⟨z, n, rfl, rfl, ok, q⟩ := h
  obtain ⟨t, rfl⟩ := rx
  obtain ⟨t', rfl⟩ := ry
  exact PySem.SB.mul ok fun t2 k => ⟨.str _, H, I.tok _, ⟨_, rfl⟩, q⟩
/-! ### list(text) -/
theorem call_listS {X : Cx} (hc : X.calm = true) : CallR X (.type "list") (fun xs H Q => ∃ l, xs = [.str (S l)] ∧ l.length ≤ sizeLine ∧ ∀ p, H p = none → Q (.ref p) (upd H p (.lst (l.map fun c => V.str (S [c]))))) := by
  intro pins s σ H xs us Q I r h
  obtain ⟨l, rfl, hl, q⟩ := h
  obtain ⟨u, rfl, rx⟩ := vals1 r
  obtain ⟨t, rfl⟩ := rx
  refine call_list_str (hn := by rw [S_size]; exact hl) (I.ok.hd hc) (S l) t fun h' tk acc c' kp e hacc => ?_
  refine ⟨.ref s.heap.objs.size, _, I.laid (t' := tk) kp (Nat.le_refl _) (show ObjOk X.prog X.w _ h' _ (.lst (l.map fun c => V.str (S [c]))) from ⟨by rw [List.length_map]; exact hl, acc.toList, c', ?_, by simpa using e⟩), rfl, q _ (I.hok.fresh (Nat.le_refl _))⟩
  have hsz : acc.size = l.length := by rw [hacc.1, S_size]
  have key : ∀ (l : List Nat) (vs : List Value), vs.length = l.length → (∀ (j : Nat) v, vs[j]? = some v → ∃ c u, l[j]? = some c ∧ v = .str ⟨#[c]⟩ u) → Vals (l.map fun c => V.str (S [c])) vs := by
    intro l
    induction l with
    | nil =>
      intro vs hl _
      rw [List.eq_nil_of_length_eq_zero hl]
      exact .nil
    | cons c l ih =>
      intro vs hl h
      cases vs with
      | nil => simp at hl
      | cons v vs =>
        obtain ⟨d, u, e1, e2⟩ := h 0 v rfl
        have e1 : c = d := by simpa using e1
        subst e1
        exact .cons ⟨u, e2⟩ (ih vs (by simpa using hl) fun j v hj => by simpa using h (j + 1) v (by simpa using hj))
  refine key l acc.toList (by simpa using hsz) fun j v hj => ?_
  obtain ⟨c, u, h1, h2⟩ := hacc.2 j v (by simpa using hj)
  exact ⟨c, u, S_get h1, h2⟩
/-! ### a, *rest = a list -/
theorem walks_tail {prog : Program} {w : World} {A : Around} (hh : A.handled = none) (I ax : Addr) (hne : ax ≠ I) (items : Array Value) (n : Nat) (hn : items.size = n + 1) :
    Walks prog w A I [I, ax] [I] n (fun i v => items[i + 1]? = some v) (fun i h => h.IsListIter I ax (i + 1) ∧ h.IsList ax items) := by
  have W := Walks.list (prog := prog) (w := w) hh I ax hne items
  refine ⟨W.sub, fun i h h' st k => W.frame (i + 1) h h' st k, fun i s Q E hi st hQ => W.item (i + 1) s Q E (by omega) st hQ, fun s Q E st hQ => W.done s Q E (by rw [hn]; exact st) hQ, fun i s Q E st hQ => W.self (i + 1) s Q E st hQ⟩
theorem unpack_star {prog : Program} {w : World} {A : Around} {E : Value → Shared → Prop} {s : Shared} {a : Addr} {x : Value} {its : List Value} {Q : List Value → Shared → Prop} (hh : A.handled = none) (hl : s.heap.IsList a (x :: its).toArray) (hz : its.length ≤ sizeLine)
    (hQ : ∀ (h' : Heap) (tk : Nat), (∀ b o, s.heap.get? b = some o → h'.get? b = some o) → Q [x, .ref h'.objs.size] { s with heap := h'.push { cls := .type "list", data := .seq its.toArray }, toks := tk }) :
    wpAny (model prog w) A (unpackItems (.ref a) 2 (some 1)) Q E s := by
  have hlt : a ≠ s.heap.objs.size := by obtain ⟨o, ho, _⟩ := hl; exact Nat.ne_of_lt (Heap.lt_size ho)
  unfold unpackItems
  refine wpAny_bind ?_
  unfold notIterableAtAll
  refine wpAny_bind (wpAny_specialOf hl.typeIs slot_list_iter.lookup ?_)
  refine wpAny_pure ?_
  simp only [Bool.false_eq_true, if_false]
  refine wpAny_bind (wpAny_holding (wpAny_pyIter_list hl ?_))
  refine wpAny_bind (wpAny_holding ?_)
  have W := Walks.list (prog := prog) (w := w) (A := A) hh s.heap.objs.size a hlt (x :: its).toArray
  have st0 : (s.heap.push { cls := .type "list_iterator", data := .fields #[.ref a, .int 0 0] }).IsListIter s.heap.objs.size a 0 := ⟨_, Heap.get?_push_size _ rfl, rfl, rfl⟩
  have hl1 : (s.heap.push { cls := .type "list_iterator", data := .fields #[.ref a, .int 0 0] }).IsList a (x :: its).toArray := by
    obtain ⟨o, ho, r⟩ := hl
    exact ⟨o, Heap.get?_push_of_some _ ho, r⟩
  unfold draw
  refine wpAny_bind (W.item 0 _ _ _ (by simp) ⟨st0, hl1⟩ fun v h1 tk1 hv st1 k1 => ?_)
  have hv : v = x := by simpa using hv.symm
  subst hv
  refine wpAny_bind (wpAny_holding ?_)
  unfold draw
  refine wpAny_pure (wpAny_pure ?_)
  rw [if_neg (by simp)]
  have k1' : ∀ b o, s.heap.get? b = some o → h1.get? b = some o := fun b o e => k1 b o (by
    simp only [List.mem_singleton]
    exact Nat.ne_of_lt (Heap.lt_size e)) (Heap.get?_push_of_some _ e)
  have hI1 : s.heap.objs.size < h1.objs.size := by
    obtain ⟨o, ho, _⟩ := st1.1
    exact Heap.lt_size ho
  refine wpAny_bind (wpAny_holding ?_)
  have WT := (walks_tail (prog := prog) (w := w) (A := A.in1) hh s.heap.objs.size a hlt (v :: its).toArray its.length (by simp)).toS
  refine wpAny_collect_iter (T := "list_iterator") (.inr (.inr (.inl rfl))) WT (fun i s st => ?_) st1 (fun b hb => ?_) (by simp) (fun s' acc hm hacc => ?_) hz
  · obtain ⟨⟨o, ho, hc, _⟩, _⟩ := st
    exact ⟨o, ho, hc⟩
  · have e' : b = s.heap.objs.size ∨ b = a := by simpa using hb
    rcases e' with z | z
    · rw [z]; exact hI1
    · rw [z]
      obtain ⟨o, ho, _⟩ := st1.2
      exact Heap.lt_size ho
  obtain ⟨h2, g2, d2, t2, o2⟩ := s'
  have eg : g2 = s.gens := hm.gens
  have ed : d2 = s.drawn := hm.drawn
  have eo : o2 = s.os := hm.os
  subst eg ed eo
  have hk2 : ∀ b o, s.heap.get? b = some o → h2.get? b = some o := fun b o e => hm.heap b o (by
    simp only [List.mem_singleton]
    exact Nat.ne_of_lt (Heap.lt_size e)) (k1' b o e)
  have hlen : acc.toList.length = its.length := by simpa using hacc.1
  have eacc : acc.toList = its := by
    refine List.ext_getElem? fun j => ?_
    by_cases hj : j < its.length
    · have hj2 : j < acc.toList.length := by rw [hlen]; exact hj
      have h3 := hacc.2 j (acc.toList[j]'hj2) (by simp)
      have h3 : its[j]? = some (acc.toList[j]'hj2) := by simpa using h3
      rw [h3, List.getElem?_eq_getElem]
    · have a1 : its.length ≤ j := Nat.le_of_not_lt hj
      have a2 : acc.toList.length ≤ j := by rw [hlen]; exact a1
      rw [List.getElem?_eq_none a2, List.getElem?_eq_none a1]
  rw [eacc]
  rw [if_neg (by omega)]
  refine wpAny_bind (wpAny_newObj_type ?_ (Nat.le_trans (List.length_take_le _ _) hz))
  refine wpAny_pure ?_
  have e4 : its.drop (its.length - (2 - 1 - 1)) = [] := List.drop_eq_nil_of_le (Nat.le_refl _)
  have e5 : its.take (its.length - (2 - 1 - 1)) = its := List.take_of_length_le (Nat.le_refl _)
  rw [e4, e5]
  exact hQ h2 t2 hk2
def gStar (K : PySem.W.Frag) (g1 g2 : TG) : TG := fun v σ H Q => ∃ a x xs, v = .ref a ∧ SqL K H a (x :: xs) ∧ ∀ p, H p = none → g1 x σ (upd H p (.lst xs)) fun σ1 H1 => g2 (.ref p) σ1 H1 Q
theorem pg_star {X : Cx} {t1 t2 : Expr} {p2 pos : Pos} {k : Nat} {g1 g2 : TG} (hc : X.calm = true) (h1 : PG X t1 g1) (h2 : PG X t2 g2)
    (ha : assignEach [t1, .Starred t2 p2] X.env = [(false, assign t1 X.env), (true, assign t2 X.env)] := by rfl) : PG X (.Tuple [t1, .Starred t2 p2] k pos) (gStar X.K g1 g2) := by
  refine ⟨fun pins s σ H v u Q I r hw => ?_⟩
  obtain ⟨a, x, xs, e1, hq, hw⟩ := hw
  subst e1
  cases r
  obtain ⟨its, rv, hl, hz⟩ := I.list hq
  cases rv with
  | cons rx rr =>
    rename_i xv its
    rw [assign_Tuple]
    refine wpAny_bind (wpAny_standAt ?_)
    unfold unpack
    rw [ha]
    have hz' : its.length ≤ sizeLine := by rw [← rr.length]; exact Nat.le_of_succ_le hz
    refine wpAny_bind (wpAny_holding (unpack_star (I.ok.hd hc) hl.isList hz' fun h' tk kp => ?_))
    have I1 : Inv X pins σ H { s with heap := h', toks := tk } := I.kept kp
    have I2 : Inv X pins σ (upd H h'.objs.size (.lst xs)) { s with heap := h'.push { cls := .type "list", data := .seq its.toArray }, toks := tk } :=
      I1.laid (t' := tk) (fun b o e => Heap.get?_push_of_some _ e) (Nat.le_refl _) ⟨Nat.le_of_succ_le hz, its, 0, rr, Heap.get?_push_size _ rfl⟩
    refine assignInOrder_cons (thn (h1.run pins _ σ _ _ _ _ I2 rx (hw _ (I1.hok.fresh (Nat.le_refl _)))) fun _ s1 ⟨σ1, H1, I3, q1⟩ => ?_)
    refine assignInOrder_cons (thn (h2.run pins s1 σ1 H1 (.ref h'.objs.size) _ _ I3 rfl q1) fun _ s2 ⟨σ2, H2, I4, q2⟩ => ?_)
    exact assignInOrder_nil ⟨σ2, H2, I4, q2⟩
end BXR
/-! texts as lists of code points: the layer's rules in this form -/
namespace BXR
open PySem PySem.Spec PyProof.Rows L2
theorem _root_.L2.OpR.wk {X : Cx} {f : Value → Value → Sem Value} {r r' : R2} (h : OpR X f r) (w : ∀ x y H Q, r' x y H Q → r x y H Q) : OpR X f r' := fun pins s σ H x y v u Q I rx ry q => h pins s σ H x y v u Q I rx ry (w _ _ _ _ q)
theorem _root_.L2.MtR.wk {X : Cx} {id : String} {r r' : V → List V → Hp → VK → Prop} (h : MtR X id r) (w : ∀ x xs H Q, r' x xs H Q → r x xs H Q) : MtR X id r' := fun pins s σ H x xs v us Q I rx rs q => h pins s σ H x xs v us Q I rx rs (w _ _ _ _ q)
theorem _root_.L2.CallR.wk {X : Cx} {f : Value} {r r' : List V → Hp → VK → Prop} (h : CallR X f r) (w : ∀ xs H Q, r' xs H Q → r xs H Q) : CallR X f r' := fun pins s σ H xs us Q I rs q => h pins s σ H xs us Q I rs (w _ _ _ q)
theorem _root_.L2.IxR.wk {X : Cx} {r r' : R2} (h : IxR X r) (w : ∀ x y H Q, r' x y H Q → r x y H Q) : IxR X r' := fun v sl pins s σ H x y a b Q I rx ry q e => h v sl pins s σ H x y a b Q I rx ry (w _ _ _ _ q) e
theorem _root_.L2.SlR.wk {X : Cx} {r r' : V → Option Int → Option Int → Hp → VK → Prop} (h : SlR X r) (w : ∀ x lo hi H Q, r' x lo hi H Q → r x lo hi H Q) : SlR X r' := fun pins s σ H x v vl vu lo hi sl Q I rx hs pl pu q => h pins s σ H x v vl vu lo hi sl Q I rx hs pl pu (w _ _ _ _ _ q)
theorem S_inj {a b : List Nat} (h : S a = S b) : a = b := by
  have := congrArg (fun x : Str => x.cps.toList) h
  simpa [S] using this
theorem S_dec (a b : List Nat) : decide (V.str (S a) = V.str (S b)) = decide (a = b) := by
  by_cases h : a = b
  · subst h; simp
  · rw [decide_eq_false h, decide_eq_false (fun z => h (S_inj (by injection z)))]
theorem S_app (a b : List Nat) : S a ++ S b = S (a ++ b) := TL.ext_tl (by rw [TL.tl_append]; rfl)
theorem le_line {n : Nat} (h : n ≤ 1000) : n ≤ sizeLine := Nat.le_trans h (by decide)
theorem pe_txt {X : Cx} {x : Str} {j pos} {l : List Nat} (h : x = S l) : PE X (.Constant (.str x) j pos) (tC (.str (S l))) := by
  subst h
  exact pe_str
theorem pe_con' {X : Cx} {x : Str} {z : V} {pos : Pos} (hg : Gl X x) (h : ∃ u, X.mg x = some u ∧ RelV z u) (hd : (x == ("__debug__" : Str)) = false := by decide) : PE X (.Name x pos) (tC z) :=
  let ⟨_, h1, h2⟩ := h
  pe_glob hg h1 h2 hd
theorem iteE {c : Bool} {A B : Prop} (h : c = true) (a : A) : if c = true then A else B := by rw [if_pos h]; exact a
theorem iteN {c : Bool} {A B : Prop} (h : c = false) (b : B) : if c = true then A else B := by rw [if_neg (by rw [h]; exact Bool.false_ne_true)]; exact b
theorem iteC {c : Bool} {A B : Prop} (h1 : c = true → A) (h2 : c = false → B) : if c = true then A else B := by
  cases h : c with
  | true => exact iteE rfl (h1 h)
  | false => exact iteN rfl (h2 h)
theorem ndT {p : Prop} [Decidable p] (h : (!decide p) = true) : ¬ p := by
  cases hd : decide p with
  | true => rw [hd] at h; cases h
  | false => exact of_decide_eq_false hd
theorem ndF {p : Prop} [Decidable p] (h : (!decide p) = false) : p := by
  cases hd : decide p with
  | true => exact of_decide_eq_true hd
  | false => rw [hd] at h; cases h
/-! ### operators -/
def rEqB : R2 := fun x y H Q => ∃ a b : Bool, x = .bl a ∧ y = .bl b ∧ Q (.bl (a == b)) H
theorem o_eqB {X : Cx} : OpR X (compareOp .Eq) rEqB := op_eq.wk fun x y H Q ⟨a, b, e1, e2, q⟩ => by subst e1 e2; exact ⟨rfl, by rw [dec_bl]; exact q⟩
/-- ints compared, without the value around -/
def rEqI : R2 := fun x y H Q => ∃ a b : Int, x = .int a ∧ y = .int b ∧ Q (.bl (decide (a = b))) H
def rNeI : R2 := fun x y H Q => ∃ a b : Int, x = .int a ∧ y = .int b ∧ Q (.bl (!decide (a = b))) H
theorem I_dec (a b : Int) : decide (V.int a = V.int b) = decide (a = b) := by
  by_cases h : a = b
  · subst h; simp
  · rw [decide_eq_false h, decide_eq_false (fun z => h (by injection z))]
theorem o_eqI {X : Cx} : OpR X (compareOp .Eq) rEqI := op_eq.wk fun x y H Q ⟨a, b, e1, e2, q⟩ => by subst e1 e2; exact ⟨rfl, by rw [I_dec]; exact q⟩
theorem o_neI {X : Cx} : OpR X (compareOp .NotEq) rNeI := op_ne.wk fun x y H Q ⟨a, b, e1, e2, q⟩ => by subst e1 e2; exact ⟨rfl, by rw [I_dec]; exact q⟩
def rAddS : R2 := fun x y H Q => ∃ a b, x = .str (S a) ∧ y = .str (S b) ∧ a.length + b.length ≤ 1000 ∧ Q (.str (S (a ++ b))) H
def rEqS : R2 := fun x y H Q => ∃ a b, x = .str (S a) ∧ y = .str (S b) ∧ Q (.bl (decide (a = b))) H
def rNeS : R2 := fun x y H Q => ∃ a b, x = .str (S a) ∧ y = .str (S b) ∧ Q (.bl (!decide (a = b))) H
def rInC : R2 := fun x y H Q => ∃ c l, x = .str (S [c]) ∧ y = .str (S l) ∧ Q (.bl (decide (c ∈ l))) H
def rNinC : R2 := fun x y H Q => ∃ c l, x = .str (S [c]) ∧ y = .str (S l) ∧ Q (.bl (!decide (c ∈ l))) H
def rMulS : R2 := fun x y H Q => ∃ (l : List Nat) (n : Nat), x = .str (S l) ∧ y = .int n ∧ l.length ≤ 100 ∧ n ≤ 1000 ∧ Q (.str (S (List.replicate n l).flatten)) H
section
variable {X : Cx}
theorem o_addS : OpR X (binaryOp .Add) rAddS := op_add_str.wk fun x y H Q ⟨a, b, e1, e2, h, q⟩ => ⟨S a, S b, e1, e2, by rw [S_len, S_len]; exact le_line h, by rw [S_app]; exact q⟩
theorem i_addS : PIp X .Add rAddS := fun pins s σ H x y v u Q I rx ry ⟨a, b, e1, e2, h, q⟩ => iop_add_str pins s σ H x y v u Q I rx ry ⟨S a, S b, e1, e2, by rw [S_len, S_len]; exact le_line h, by rw [S_app]; exact q⟩
theorem o_eqS : OpR X (compareOp .Eq) rEqS := op_eq.wk fun x y H Q ⟨a, b, e1, e2, q⟩ => by subst e1 e2; exact ⟨rfl, by rw [S_dec]; exact q⟩
theorem o_neS : OpR X (compareOp .NotEq) rNeS := op_ne.wk fun x y H Q ⟨a, b, e1, e2, q⟩ => by subst e1 e2; exact ⟨rfl, by rw [S_dec]; exact q⟩
theorem o_inC : OpR X (compareOp .In) rInC := op_in_sign.wk fun x y H Q ⟨c, l, e1, e2, q⟩ => ⟨c, S l, e1, e2, q⟩
theorem o_ninC : OpR X (compareOp .NotIn) rNinC := op_notIn_sign.wk fun x y H Q ⟨c, l, e1, e2, q⟩ => ⟨c, S l, e1, e2, q⟩
theorem foldl_app (l : List Nat) : ∀ (n : Nat) (acc : Array Nat), (List.replicate n l.toArray).foldl (· ++ ·) acc = acc ++ ((List.replicate n l).flatten).toArray
  | 0, acc => by simp
  | n + 1, acc => by
    rw [List.replicate_succ, List.foldl_cons, foldl_app l n]
    simp [List.replicate_succ]
theorem o_mulS : OpR X (binaryOp .Mult) rMulS := op_mulS.wk fun x y H Q ⟨l, n, e1, e2, h1, h2, q⟩ => by
  have hm : l.length * n ≤ 100000 := Nat.le_trans (Nat.mul_le_mul h1 h2) (by decide)
  refine ⟨S l, n, e1, e2, ⟨?_, fun _ _ => ?_, fun _ _ => ?_⟩, ?_⟩
  · rw [Bool.or_eq_false_iff]
    exact ⟨decide_eq_false (by omega), decide_eq_false (by omega)⟩
  · rename_i a b
    rw [S_len]
    have hn1 : 1 ≤ n := by omega
    have : (1 : Int) * 1000 ≤ (2 ^ 63 - 1) / (n : Int) := by
      rw [Int.le_ediv_iff_mul_le (by omega)]
      omega
    omega
  · rw [S_len, Int.toNat_natCast]
    unfold PySem.Builtin.Str.tooLong
    simp only [decide_eq_false_iff_not]
    have : (100000 : Nat) ≤ sizeLine := by decide
    omega
  · have : Txt.mul (S l) (n : Int) = S (List.replicate n l).flatten := by
      unfold Txt.mul
      by_cases h0 : (n : Int) < 1
      · have : n = 0 := by omega
        subst this
        rw [if_pos h0]; rfl
      · rw [if_neg h0]
        by_cases h3 : ((n : Int) == 1 || (S l).length == 0) = true
        · rw [if_pos h3]
          rw [Bool.or_eq_true] at h3
          rcases h3 with h3 | h3
          · have : n = 1 := by have := eq_of_beq h3; omega
            subst this
            simp
          · have : l = [] := by
              have h4 := eq_of_beq h3
              rw [S_len] at h4
              exact List.eq_nil_of_length_eq_zero h4
            subst this
            simp
        · rw [if_neg h3, Int.toNat_natCast]
          show (⟨(List.replicate n l.toArray).foldl (· ++ ·) #[]⟩ : Str) = _
          rw [foldl_app]
          simp [S]
    rw [this]
    exact q
/-! ### slices, items, len -/
def cutL (l : List Nat) (lo hi : Option Int) : List Nat := (l.drop (HT.sIx l.length 0 lo)).take (HT.sIx l.length l.length hi - HT.sIx l.length 0 lo)
theorem cutS_S (l : List Nat) (lo hi : Option Int) : cutS (S l) lo hi = S (cutL l lo hi) := by
  unfold cutS cutL
  rw [S_len]
  rfl
theorem cutL_take (l : List Nat) (k : Nat) : cutL l none (some (k : Int)) = l.take k := by
  unfold cutL
  rw [HT.sIx_none, HT.sIx_nat, List.drop_zero, Nat.sub_zero]
  by_cases h : k ≤ l.length
  · rw [Nat.min_eq_left h]
  · rw [Nat.min_eq_right (by omega), List.take_of_length_le (Nat.le_refl _), List.take_of_length_le (by omega)]
theorem cutL_drop (l : List Nat) (k : Nat) : cutL l (some (k : Int)) none = l.drop k := by
  unfold cutL
  rw [HT.sIx_none, HT.sIx_nat]
  by_cases h : k ≤ l.length
  · rw [Nat.min_eq_left h, List.take_of_length_le (by rw [List.length_drop]; omega)]
  · rw [Nat.min_eq_right (by omega), List.drop_eq_nil_of_le (Nat.le_refl _), List.drop_eq_nil_of_le (by omega)]
    rw [List.take_nil]
theorem cutL_mid (l : List Nat) (i j : Nat) : cutL l (some (i : Int)) (some (j : Int)) = (l.drop i).take (j - i) := by
  unfold cutL
  rw [HT.sIx_nat, HT.sIx_nat]
  by_cases h : i ≤ l.length
  · rw [Nat.min_eq_left h]
    by_cases h2 : j ≤ l.length
    · rw [Nat.min_eq_left h2]
    · rw [Nat.min_eq_right (by omega), List.take_of_length_le (by rw [List.length_drop]; omega), List.take_of_length_le (by rw [List.length_drop]; omega)]
  · rw [Nat.min_eq_right (show l.length ≤ i by omega), List.drop_eq_nil_of_le (Nat.le_refl _), List.drop_eq_nil_of_le (show l.length ≤ i by omega)]
    rw [List.take_nil, List.take_nil]
theorem cutL_back (l : List Nat) (k : Nat) (hk : 0 < k) : cutL l (some (-(k : Int))) none = l.drop (l.length - k) := by
  unfold cutL
  rw [HT.sIx_none]
  have : HT.sIx l.length 0 (some (-(k : Int))) = l.length - k := by
    show (if -(k : Int) < 0 then (-(k : Int) + (l.length : Int)).toNat else _) = _
    rw [if_pos (by omega)]
    omega
  rw [this, List.take_of_length_le (by rw [List.length_drop]; omega)]
def rSlL : V → Option Int → Option Int → Hp → VK → Prop := fun x lo hi H Q => ∃ l, x = .str (S l) ∧ l.length ≤ 1000 ∧ Q (.str (S (cutL l lo hi))) H
theorem sl_S : SlR X rSlL := sl_str.wk fun x lo hi H Q ⟨l, e, h, q⟩ => ⟨S l, e, by rw [S_len]; exact le_line h, by rw [cutS_S]; exact q⟩
def rIxC : R2 := fun x y H Q => ∃ (l : List Nat) (k : Nat) (c : Nat), x = .str (S l) ∧ y = .int k ∧ l.length ≤ 1000 ∧ l[k]? = some c ∧ Q (.str (S [c])) H
theorem ix_C : IxR X rIxC := ix_str.wk fun x y H Q ⟨l, k, c, e1, e2, h, hk, q⟩ => ⟨S l, k, c, e1, e2, by rw [S_len]; exact le_line h, atI_nat hk, q⟩
theorem len_S : CallR X (.builtin "len") (fun xs H Q => ∃ l : List Nat, xs = [.str (S l)] ∧ l.length ≤ 1000 ∧ Q (.int l.length) H) := call_len_str.wk fun xs H Q ⟨l, e, h, q⟩ => ⟨S l, e, by rw [S_len]; exact le_line h, by rw [S_len]; exact q⟩
/-! ### methods -/
theorem pre_iff (b l : List Nat) : TL.pre b l = decide (b <+: l) := by
  unfold TL.pre
  by_cases h : b <+: l
  · rw [decide_eq_true h, List.prefix_iff_eq_take.mp h, List.length_take]
    simp
  · rw [decide_eq_false h]
    refine beq_eq_false_iff_ne.mpr fun e => h ?_
    rw [← e]
    exact List.take_prefix _ _
theorem sub_S (a b : List Nat) (i : Nat) : Builtin.Str.subAt (S a) (S b) i = TL.pre b (a.drop i) := by
  show ((a.toArray.extract i (i + (S b).length)) == b.toArray) = _
  rw [S_len]
  unfold TL.pre
  rw [Bool.eq_iff_iff, beq_iff_eq, beq_iff_eq, ← Array.toList_inj]
  simp [List.extract_eq_take_drop]
theorem starts_S (a b : List Nat) : Txt.startswith (S a) (S b) = decide (b <+: a) := by
  unfold Txt.startswith
  rw [sub_S, pre_iff, List.drop_zero, S_len, S_len]
  by_cases h : b <+: a
  · rw [decide_eq_true h, decide_eq_true (by have := h.length_le; omega)]; rfl
  · rw [decide_eq_false h, Bool.and_false]
theorem ends_S (a b : List Nat) : Txt.endswith (S a) (S b) = decide (b <:+ a) := by
  unfold Txt.endswith
  rw [sub_S, pre_iff, S_len, S_len]
  by_cases h : b <:+ a
  · rw [decide_eq_true h, decide_eq_true (by have := h.length_le; omega), Bool.true_and]
    obtain ⟨t, e⟩ := h
    subst e
    rw [List.length_append, Nat.add_sub_cancel, List.drop_left]
    exact decide_eq_true (List.prefix_refl _)
  · rw [decide_eq_false h]
    by_cases h2 : b.length ≤ a.length
    · rw [decide_eq_true (show 0 + b.length ≤ a.length by omega), Bool.true_and]
      refine decide_eq_false fun z => h ?_
      have e : b = a.drop (a.length - b.length) := z.eq_of_length (by rw [List.length_drop]; omega)
      rw [e]
      exact List.drop_suffix _ _
    · rw [decide_eq_false (show ¬ 0 + b.length ≤ a.length by omega), Bool.false_and]
theorem m_starts : MtR X "str.startswith" (fun x xs H Q => ∃ a b : List Nat, x = .str (S a) ∧ xs = [.str (S b)] ∧ Q (.bl (decide (b <+: a))) H) := mt_startswith.wk fun x xs H Q ⟨a, b, e1, e2, q⟩ => ⟨S a, S b, e1, e2, by rw [starts_S]; exact q⟩
theorem m_ends : MtR X "str.endswith" (fun x xs H Q => ∃ a b : List Nat, x = .str (S a) ∧ xs = [.str (S b)] ∧ Q (.bl (decide (b <:+ a))) H) := mt_endswith.wk fun x xs H Q ⟨a, b, e1, e2, q⟩ => ⟨S a, S b, e1, e2, by rw [ends_S]; exact q⟩
theorem count_S (l : List Nat) (c : Nat) : Txt.count (S l) (S [c]) = (l.count c : Nat) := by
  show Txt.count (S l) ⟨#[c]⟩ = _
  rw [count_cnt]
  show cnt c l = _
  induction l with
  | nil => rfl
  | cons d l ih =>
    rw [cnt_cons, ih, List.count_cons]
    by_cases h : d = c
    · subst h
      simp
      omega
    · have : (d == c) = false := by simpa using h
      rw [if_neg h, this]
      simp
theorem m_count : MtR X "str.count" (fun x xs H Q => ∃ (l : List Nat) (c : Nat), x = .str (S l) ∧ xs = [.str (S [c])] ∧ Q (.int (l.count c : Nat)) H) := mt_count.wk fun x xs H Q ⟨l, c, e1, e2, q⟩ => ⟨S l, S [c], e1, e2, by rw [count_S]; exact q⟩
def stripLoL (a b : List Nat) : Nat := (a.takeWhile fun c => decide (c ∈ b)).length
def stripL (a b : List Nat) : List Nat := (a.drop (stripLoL a b)).take (a.length - ((a.drop (stripLoL a b)).reverse.takeWhile fun c => decide (c ∈ b)).length - stripLoL a b)
def rstripL (a b : List Nat) : List Nat := a.take (a.length - (a.reverse.takeWhile fun c => decide (c ∈ b)).length)
theorem goes_S (b : List Nat) : (S b).cps.contains = fun c => decide (c ∈ b) := by
  funext c
  show b.toArray.contains c = _
  rw [List.contains_toArray, List.contains_eq_mem]
theorem strip_S (a b : List Nat) : Txt.stripChars (S a) (S b) = S (stripL a b) := by
  unfold Txt.stripChars
  rw [stripBy_eq, goes_S]
  refine TL.ext_tl ?_
  rw [TL.tl_strSub]
  simp only [PySem.stripLo, PySem.stripHi, if_true]
  rw [S_len]
  rfl
theorem rstrip_S (a b : List Nat) : Txt.rstripChars (S a) (S b) = S (rstripL a b) := by
  unfold Txt.rstripChars
  rw [stripBy_eq, goes_S]
  refine TL.ext_tl ?_
  rw [TL.tl_strSub]
  simp only [PySem.stripLo, PySem.stripHi, if_true, Bool.false_eq_true, if_false]
  rw [S_len]
  rfl
theorem m_strip : MtR X "str.strip" (fun x xs H Q => ∃ a b : List Nat, x = .str (S a) ∧ xs = [.str (S b)] ∧ a.length ≤ 1000 ∧ Q (.str (S (stripL a b))) H) := mt_stripChars.wk fun x xs H Q ⟨a, b, e1, e2, h, q⟩ => ⟨S a, S b, e1, e2, by rw [S_len]; exact le_line h, by rw [strip_S]; exact q⟩
theorem m_rstrip : MtR X "str.rstrip" (fun x xs H Q => ∃ a b : List Nat, x = .str (S a) ∧ xs = [.str (S b)] ∧ a.length ≤ 1000 ∧ Q (.str (S (rstripL a b))) H) := mt_rstripChars.wk fun x xs H Q ⟨a, b, e1, e2, h, q⟩ => ⟨S a, S b, e1, e2, by rw [S_len]; exact le_line h, by rw [rstrip_S]; exact q⟩
theorem map_S_tl (ys : List (List Nat)) : (ys.map S).map TL.tl = ys := by
  induction ys with
  | nil => rfl
  | cons y ys ih => rw [List.map_cons, List.map_cons, ih]; rfl
theorem split_S (l : List Nat) (c : Nat) (hc : c < 256) : Txt.split (S l) (S [c]) = (TL.spl [c] 0 [] l).map S := by
  refine TL.map_tl_inj ?_
  rw [TL.split_spl _ _ (by show [c] ≠ []; simp) (TL.kind_ok (by show [c].toArray.all (· < 256) = true; simp [hc])), map_S_tl]
  rfl
theorem m_split : MtR X "str.split" (fun x xs H Q => ∃ (l : List Nat) (c : Nat), x = .str (S l) ∧ xs = [.str (S [c])] ∧ c < 256 ∧ l.length ≤ 1000 ∧ ∀ p, H p = none → Q (.ref p) (upd H p (.lst ((TL.spl [c] 0 [] l).map fun z => V.str (S z))))) :=
  mt_split.wk fun x xs H Q ⟨l, c, e1, e2, hc, h, q⟩ => ⟨S l, S [c], e1, e2, rfl, by rw [S_len]; exact Nat.le_trans (Nat.add_le_add_right h 2) (by decide), by
    rw [split_S l c hc]
    intro p hp
    have := q p hp
    rw [List.map_map]
    exact this⟩
theorem joinL_nil : ∀ ys : List (List Nat), TL.joinL [] ys = ys.flatten
  | [] => rfl
  | [x] => by simp [TL.joinL]
  | x :: z :: r => by
    show x ++ ([] ++ TL.joinL [] (z :: r)) = _
    rw [joinL_nil (z :: r), List.nil_append]
    rfl
theorem join_S (ys : List (List Nat)) : Txt.join (S []) (ys.map S) = S ys.flatten := by
  refine TL.ext_tl ?_
  rw [TL.join_eq, TL.tl_join, map_S_tl]
  exact joinL_nil ys
theorem m_join : MtR X "str.join" (fun x xs H Q => ∃ p, ∃ ys : List (List Nat), x = .str (S []) ∧ xs = [.ref p] ∧ SqL X.K H p (ys.map fun z => V.str (S z)) ∧ ys.flatten.length ≤ 1000 ∧ Q (.str (S ys.flatten)) H) :=
  mt_join.wk fun x xs H Q ⟨p, ys, e1, e2, h, hl, q⟩ => ⟨S [], p, ys.map S, e1, e2, .inl (by rw [List.map_map]; exact h), by
    have e : ((ys.map S).map (·.length)).sum = ys.flatten.length := by
      rw [List.map_map, List.length_flatten]
      congr 1
    rw [e]
    show _ + _ * 0 ≤ _
    omega, by rw [join_S]; exact q⟩
/-! ### numbers and texts -/
theorem call_strI : CallR X (.type "str") (fun xs H Q => ∃ n : Nat, xs = [.int n] ∧ n < 1000000 ∧ Q (.str (S (TL.numL n))) H) := call_str_int.wk fun xs H Q ⟨n, e, h, q⟩ => by
  refine ⟨n, e, ?_, ?_⟩
  · rw [Int.natAbs_natCast]
    have h2 : n.log2 < 20 := by
      by_cases h0 : n = 0
      · subst h0; decide
      · exact (Nat.log2_lt h0).mpr (Nat.lt_trans h (by decide))
    omega
  · have : (Str.ofString (toString ((n : Nat) : Int))) = S (TL.numL n) := TL.ext_tl (by rw [TL.tl_num]; rfl)
    show Q (.str (Str.ofString (toString ((n : Nat) : Int)))) H
    rw [this]
    exact q
theorem m_zfill : MtR X "str.zfill" (fun x xs H Q => ∃ (l : List Nat) (n : Nat), x = .str (S l) ∧ xs = [.int n] ∧ n ≤ 1000 ∧ l.head? ≠ some 43 ∧ l.head? ≠ some 45 ∧ Q (.str (S (List.replicate (n - l.length) 48 ++ l))) H) :=
  mt_zfill.wk fun x xs H Q ⟨l, n, e1, e2, h, a1, a2, q⟩ => by
    refine ⟨S l, n, e1, e2, ?_, ?_⟩
    · unfold PadOk fitsSsize Builtin.Str.tooLong
      have : (1000 : Nat) ≤ sizeLine := by decide
      rw [Bool.and_eq_true, Bool.not_eq_true', Bool.not_eq_true', Bool.or_eq_false_iff]
      refine ⟨⟨decide_eq_false (by omega), decide_eq_false (by omega)⟩, decide_eq_false (by rw [Int.toNat_natCast]; omega)⟩
    · have e : Txt.zfill (S l) (n : Int) = S (List.replicate (n - l.length) 48 ++ l) := by
        unfold Txt.zfill
        rw [S_len, Int.toNat_natCast]
        by_cases hn : (n : Int) ≤ (l.length : Int)
        · rw [if_pos hn, show n - l.length = 0 by omega]; rfl
        · rw [if_neg hn]
          unfold PySem.zfilled
          have hh : (S l).cps[0]? = l.head? := by
            show l.toArray[0]? = _
            rw [List.head?_eq_getElem?]
            simp
          rw [hh]
          cases l with
          | nil =>
            show Builtin.Str.padded (S []) (n - 0) 0 48 = _
            unfold Builtin.Str.padded
            refine TL.ext_tl ?_
            simp [S, TL.tl]
          | cons c l =>
            have b1 : c ≠ 43 := fun z => a1 (by rw [z]; rfl)
            have b2 : c ≠ 45 := fun z => a2 (by rw [z]; rfl)
            rw [List.head?_cons]
            split
            · rename_i h; exact absurd (Option.some.inj h) b1
            · rename_i h; exact absurd (Option.some.inj h) b2
            · unfold Builtin.Str.padded
              refine TL.ext_tl ?_
              simp [S, TL.tl]
      rw [e]
      exact q
theorem intS {l : List Nat} (h : ∀ c ∈ l, c ∈ BX.FIG) (h1 : l ≠ []) (h2 : l.length ≤ 100) : PySem.intText? (S l) = some ((BX.num l : Nat) : Int) := by
  refine intText_digits (x := S l) (fun c hc => ?_) h1 (by rw [S_len]; omega)
  have := h c hc
  simp only [BX.FIG, List.mem_cons, List.not_mem_nil, or_false] at this
  omega
theorem call_intS : CallR X (.type "int") (fun xs H Q => ∃ l : List Nat, xs = [.str (S l)] ∧ (∀ c ∈ l, c ∈ BX.FIG) ∧ l ≠ [] ∧ l.length ≤ 100 ∧ Q (.int ((BX.num l : Nat) : Int)) H) := call_int_str.wk fun xs H Q ⟨l, e, h, h1, h2, q⟩ =>
  ⟨S l, _, e, intS h h1 h2, by rw [S_len]; omega, q⟩
end
end BXR
/-! the promises -/
namespace BXR
open PySem PySem.Spec PyProof.Rows L2 BX
def top (i : Nat) : Stmt := PySem.Challenge.pw_boxmoves_k12_whole_texts_in_all.main.body.getD i (.Pass ⟨0, 0, 0, 0⟩)
abbrev tS (l : T) : V := .str (S l)
abbrev c1 (c : Nat) : V := tS [c]
def shF (p : P) : List (Str × V) := putF "first" (tS [p.first]) (putF "tail" (tS p.tail) (putF "broken" (tS p.broken) (putF "whole" (tS p.whole) (putF "lead" (tS p.lead) []))))
def ShAt (C : Addr) (H : Hp) (a : Addr) (p : P) : Prop := ∃ dx, H a = some (.ins C dx (shF p))
def lastV : Option Nat → V
  | none => .non
  | some l => .int l
abbrev EDITED : T := [101, 100, 105, 116, 101, 100]
def Cnt (H : Hp) (l : T) (as : List Addr) : Prop := as.length = l.length ∧ ∀ (i : Nat) c b, l[i]? = some c → as[i]? = some b → H b = some (.tup [c1 c, .int 1])
abbrev whl (p : P) : Nat := bef p + beh p
def spTen : Sp := fun vs H Q _ => ∃ n : Nat, vs = [.int n] ∧ n ≤ 20 ∧ Q (.int ((10 ^ n : Nat) : Int)) H
def spCutShort : Sp := fun vs H Q _ => ∃ (u : Int) (k : Nat), vs = [.int (u * ((10 ^ k : Nat) : Int)), .int ((10 ^ k : Nat) : Int)] ∧ k ≤ 5 ∧ Q (.int u) H
def spCut (K : PySem.W.Frag) : Sp := fun vs H Q _ => ∃ (a : Addr) (u : Int) (k : Nat), vs = [.ref a, .int k] ∧ SqT K H a [.int u, .int k] ∧ k ≤ 5 ∧ ∀ t H', Same H H' → H' t = some (.tup [.int u, .int k]) → Q (.ref t) H'
def spInit (C : Addr) : Sp := fun vs H Q _ => ∃ (x dx : Addr) (p : P), vs = [.ref x, tS p.lead, tS p.whole, tS p.broken, tS p.tail, tS [p.first]] ∧ H x = some (.ins C dx []) ∧ Q .non (upd H x (.ins C dx (shF p)))
def spFloats (C : Addr) : Sp := fun vs H Q _ => ∃ (a : Addr) (p : P), vs = [.ref a] ∧ ShAt C H a p ∧ Q (.bl (decide (p.first ∈ FLT))) H
def spMarks (C : Addr) : Sp := fun vs H Q _ => ∃ (a : Addr) (p : P), vs = [.ref a] ∧ ShAt C H a p ∧ p.tail.length ≤ 2 ∧ ∀ v, decide (v = V.non) = !shows p → Q v H
def spBefore (C : Addr) : Sp := fun vs H Q _ => ∃ (a : Addr) (p : P), vs = [.ref a] ∧ ShAt C H a p ∧ Pl p.first p.whole ∧ p.whole.length ≤ 40 ∧ ∀ H', Same H H' → Q (.int (bef p)) H'
def spSupp (C : Addr) : Sp := fun vs H Q _ => ∃ (a : Addr) (p : P), vs = [.ref a] ∧ ShAt C H a p ∧ p.whole.length + p.broken.length ≤ 100 ∧ Q (.bl (!decide (57 ∈ p.whole ++ p.broken))) H
def spCounted : Sp := fun vs H Q _ => ∃ l : T, vs = [tS l] ∧ 40 ∉ l ∧ l.length ≤ 100 ∧ ∀ (a : Addr) (as : List Addr) (H' : Hp), Same H H' → H' a = some (.lst (as.map V.ref)) → Cnt H' l as → Q (.ref a) H'
def spWritten : Sp := fun vs H Q _ => ∃ l : T, vs = [tS l] ∧ 40 ∉ l ∧ l.length ≤ 100 ∧ ∀ H', Same H H' → Q (tS l) H'
def spIsNum : Sp := fun vs H Q _ => ∃ l : T, vs = [tS l] ∧ 83 ∉ l ∧ 86 ∉ l ∧ l.length ≤ 100 ∧ ∀ H', Same H H' → Q (.bl (isNum l)) H'
def spFloatRow : Sp := fun vs H Q _ => ∃ l : T, vs = [tS l] ∧ l.length ≤ 100 ∧ ∀ H', Same H H' → Q (.int (floatRow l)) H'
def spLeadOf : Sp := fun vs H Q _ => ∃ l : T, vs = [tS l] ∧ l.length ≤ 100 ∧ ∀ H', Same H H' → Q (tS (leadOf l)) H'
def spTailOf : Sp := fun vs H Q _ => ∃ l : T, vs = [tS l] ∧ l.length ≤ 100 ∧ ∀ H', Same H H' → Q (tS (tailOf l)) H'
def spIsWhole : Sp := fun vs H Q _ => ∃ (w : T) (f : Nat), vs = [tS w, tS [f]] ∧ w.length ≤ 100 ∧ Pl f w ∧ ∀ H', Same H H' → Q (.bl true) H'
def spShapeOf (C : Addr) : Sp := fun vs H Q _ => ∃ p : P, vs = [tS (line p)] ∧ Dr p ∧ ∀ a H', Same H H' → ShAt C H' a p → Q (.ref a) H'
def spFormOf : Sp := fun vs H Q _ => ∃ p : P, vs = [tS (line p)] ∧ Dr p ∧ ∀ H', Same H H' → Q (tS EDITED) H'
def spIsPic : Sp := fun vs H Q _ => ∃ p : P, vs = [tS (line p)] ∧ Dr p ∧ ∀ H', Same H H' → Q (.bl true) H'
def spUnf : Sp := fun vs H Q _ => ∃ p : P, vs = [tS (line p)] ∧ Dr p ∧ ∀ H', Same H H' → Q (tS (line p)) H'
def spKind : Sp := fun vs H Q _ => ∃ p : P, vs = [tS (line p)] ∧ Dr p ∧ ∀ H', Same H H' → Q (tS EDITED) H'
def spRoom : Sp := fun vs H Q _ => ∃ p : P, vs = [tS (line p)] ∧ Dr p ∧ ∀ t H', Same H H' → H' t = some (.tup [.bl (shows p), .int (bef p), .int (beh p)]) → Q (.ref t) H'
def spLook (C : Addr) : Sp := fun vs H Q _ => ∃ p : P, vs = [tS (line p)] ∧ Dr p ∧ ∀ a H', Same H H' → ShAt C H' a p → Q (.ref a) H'
def spFig (K : PySem.W.Frag) : Sp := fun vs H Q _ => ∃ (a : Addr) (u : Int) (b k : Nat), vs = [.ref a, .int b, .int k] ∧ SqT K H a [.int u, .int k] ∧ u.natAbs < 10 ^ (b + k) ∧ 1 ≤ b + k ∧ b + k ≤ 5 ∧
  ∀ t H', Same H H' → H' t = some (.tup [.bl (decide (u < 0)), tS (dgs (b + k) u.natAbs)]) → Q (.ref t) H'
def spSigned : Sp := fun vs H Q _ => ∃ (y : T) (b : Bool), vs = [tS y, .bl b] ∧ ∀ H', Same H H' → Q (tS (sgn y b)) H'
def spWhole (C : Addr) : Sp := fun vs H Q _ => ∃ (a : Addr) (p : P) (ds : T), vs = [.ref a, tS ds] ∧ ShAt C H a p ∧ Dr p ∧ ds.length = bef p ∧
  ∀ t f H', Same H H' → H f = none → H' t = some (.tup [.ref f, lastV (last p ds)]) → H' f = some (.lst ((fnd (decide (p.first ∈ FLT)) 0 p.whole ds).map c1)) → Q (.ref t) H'
def spBlanks (C : Addr) : Sp := fun vs H Q _ => ∃ (a fo : Addr) (p : P) (f : T) (o : Option Nat), vs = [.ref a, .ref fo, lastV o] ∧ ShAt C H a p ∧ H fo = some (.lst (f.map c1)) ∧ f.length = p.whole.length ∧ p.whole.length ≤ 40 ∧ (∀ l, o = some l → l < p.whole.length) ∧
  ∀ r H', Same H H' → (r = fo ∨ H r = none) → H' r = some (.lst ((blk p f o).map c1)) → Q (.ref r) H'
def spEdited (K : PySem.W.Frag) : Sp := fun vs H Q _ => ∃ (p : P) (a : Addr) (u : Int), vs = [tS (line p), .ref a] ∧ Dr p ∧ whl p ≤ 5 ∧ SqT K H a [.int u, .int (beh p)] ∧ u.natAbs < 10 ^ whl p ∧ ∀ H', Same H H' → Q (tS (tx p u)) H'
def spRead : Sp := fun vs H Q _ => ∃ (p : P) (u : Int), vs = [tS (line p), tS (tx p u)] ∧ Dr p ∧ whl p ≤ 2 ∧ u.natAbs < 10 ^ whl p ∧
  ∀ t H', Same H H' → H' t = some (.tup [.int (if shows p = true then u else (u.natAbs : Int)), .int (beh p)]) → Q (.ref t) H'
def spTexts : Sp := fun vs H Q _ => ∃ p : P, vs = [tS (line p)] ∧ Dr p ∧ ∀ H', Same H H' → Q (.int (if shows p = true then ((10 ^ whl p : Nat) : Int) * 2 - 1 else ((10 ^ whl p : Nat) : Int))) H'
/-! ### what the defs lean on -/
structure Txt (K : PySem.W.Frag) (mg : Str → Option Value) (C : Addr) : Prop where
  cl : Cls K C
  nL : NoAttr K C "lead"
  nW : NoAttr K C "whole"
  nB : NoAttr K C "broken"
  nT : NoAttr K C "tail"
  nF : NoAttr K C "first"
  mgC : mg "Shape" = some (.ref C)
  INSERTED : ∃ u, mg "INSERTED" = some u ∧ RelV (tS INS) u
  FLOATS : ∃ u, mg "FLOATS" = some u ∧ RelV (tS FLT) u
  FIGURES : ∃ u, mg "FIGURES" = some u ∧ RelV (tS FIG) u
  MOST_FIGURES : ∃ u, mg "MOST_FIGURES" = some u ∧ RelV (.int 18) u
  MOST_SIGNS : ∃ u, mg "MOST_SIGNS" = some u ∧ RelV (.int 60) u
  len : mg "len" = none
  abs : mg "abs" = none
  range : mg "range" = none
  int : mg "int" = none
  str : mg "str" = none
  list : mg "list" = none
  all : mg "all" = none
  sum : mg "sum" = none
  max : mg "max" = none
  isinstance : mg "isinstance" = none
  enumerate : mg "enumerate" = none
/-- a def that may be called by its name -/
structure Cal (P : Program) (w : World) (K : PySem.W.Frag) (mg : Str → Option Value) (base : Heap) (x : Str) (k : Nat) (ps : List Str) (sp : Sp) : Prop where
  ex : ∃ (f : Addr) (fd : FuncData), FnOk P w K mg base CX0 k f fd ps sp ∧ mg x = some (.ref f) ∧ PySem.W.keepIn K (.ref f) = true ∧ Binds K fd ps []
structure CalM (P : Program) (w : World) (K : PySem.W.Frag) (mg : Str → Option Value) (base : Heap) (C : Addr) (x : Str) (k : Nat) (ps : List Str) (sp : Sp) : Prop where
  ex : ∃ (f : Addr) (fd : FuncData), FnOk P w K mg base CX0 k f fd ps sp ∧ Meth K C x f ∧ Binds K fd ps []
structure MkI (P : Program) (w : World) (K : PySem.W.Frag) (mg : Str → Option Value) (base : Heap) (C : Addr) : Prop where
  ex : ∃ (f : Addr) (fd : FuncData) (g : List Value → List Value → List Value), Mk K C f ∧ FnOk P w K mg base CX0 1 f fd ["self", "lead", "whole", "broken", "tail", "first"] (spInit C) ∧
    KBn K fd ["self", "lead", "whole", "broken", "tail", "first"] 5 ["first"] g (fun vs zs => vs ++ zs)
theorem inV_nil (x : V) : inV x [] = false := rfl
theorem inV_cons (x y : BX.T) (ys : List V) : inV (tS x) (tS y :: ys) = (decide (x = y) || inV (tS x) ys) := by
  show ((S y == S x) || inV (tS x) ys) = _
  have : (S y == S x) = decide (x = y) := by
    by_cases h : x = y
    · subst h; simp
    · rw [decide_eq_false h]
      exact beq_eq_false_iff_ne.mpr fun z => h (S_inj z).symm
  rw [this]
theorem inV_two (x y z : BX.T) : inV (tS x) [tS y, tS z] = decide (x = y ∨ x = z) := by
  rw [inV_cons, inV_cons, inV_nil, Bool.or_false]
  by_cases h : x = y <;> by_cases h2 : x = z <;> simp [h, h2]
theorem inV_three (x y z u : BX.T) : inV (tS x) [tS y, tS z, tS u] = decide (x = y ∨ x = z ∨ x = u) := by
  rw [inV_cons, inV_cons, inV_cons, inV_nil, Bool.or_false]
  by_cases h : x = y <;> by_cases h2 : x = z <;> by_cases h3 : x = u <;> simp [h, h2, h3]
/-! ### cuts: where several ways come together -/
theorem cutIf {c : TT} {t u : TS} {D : Ends} {σ : L2.St} {H : Hp} (v : Bool) (g : ∀ H', Same H H' → if v = true then t D σ H' else u D σ H') (r : ∀ Q' : Bool → Hp → Prop, (∀ H', Same H H' → Q' v H') → c σ H Q') : tIfS c t u D σ H := r _ g
theorem cutSet {te : TE} {i : Nat} {D : Ends} {σ : L2.St} {H : Hp} (v : V) (g : ∀ H', Same H H' → D.nx (σ.set i (some v)) H') (r : ∀ Q' : VK, (∀ H', Same H H' → Q' v H') → te σ H Q') : tAsg te (gName i) D σ H := r _ g
theorem cutRet {te : TE} {D : Ends} {σ : L2.St} {H : Hp} (v : V) (g : ∀ H', Same H H' → D.rt v H') (r : ∀ Q' : VK, (∀ H', Same H H' → Q' v H') → te σ H Q') : tRet te D σ H := r _ g
theorem cutE {te : TE} {Q : VK} {σ : L2.St} {H : Hp} (v : V) (g : ∀ H', Same H H' → Q v H') (r : ∀ Q' : VK, (∀ H', Same H H' → Q' v H') → te σ H Q') : te σ H Q := r _ g
theorem stepS {i : Nat} {v : V} {σ : L2.St} {H : Hp} {t u : TS} {D : Ends} (h : t { D with nx := u D } (σ.set i (some v)) H) : gName i v σ H (tSeq t u D) := h
theorem stepN {σ : L2.St} {H : Hp} {t u : TS} {D : Ends} {rt : VK} {bk ct : L2.St → Hp → Prop} (h : t { D with nx := u D } σ H) : tNext { nx := tSeq t u D, rt := rt, bk := bk, ct := ct } σ H := h
theorem stepC {σ : L2.St} {H : Hp} {t u : TS} {D : Ends} (h : t { D with nx := u D } σ H) : tSeq t u D σ H := h
theorem cutSetN {te : TE} {i : Nat} {D : Ends} {σ : L2.St} {H : Hp} (v : V) (σ' : L2.St) (e : σ.set i (some v) = σ') (g : ∀ H', Same H H' → D.nx σ' H') (r : ∀ Q' : VK, (∀ H', Same H H' → Q' v H') → te σ H Q') : tAsg te (gName i) D σ H := by
  subst e
  exact r _ g
theorem normS {i : Nat} {v : V} {σ : L2.St} {H : Hp} {R : L2.St → Hp → Prop} (σ' : L2.St) (e : σ.set i (some v) = σ') (h : R σ' H) : gName i v σ H R := by subst e; exact h
theorem normSS {i j : Nat} {v w : V} {σ : L2.St} {H : Hp} {R : L2.St → Hp → Prop} (σ' : L2.St) (e : (σ.set i (some v)).set j (some w) = σ') (h : R σ' H) : gName i v σ H (fun σ1 H1 => gName j w σ1 H1 R) := by subst e; exact h
theorem normC {σ : L2.St} {H : Hp} {R : L2.St → Hp → Prop} (σ' : L2.St) (e : σ = σ') (h : R σ' H) : R σ H := by subst e; exact h
theorem cutWhile {c : TT} {tb : TS} {D : Ends} {σ : L2.St} {H : Hp} (P : L2.St → Hp → Prop) (g : ∀ σ' H', P σ' H' → D.nx σ' H') (r : ∀ nx' : L2.St → Hp → Prop, (∀ σ' H', P σ' H' → nx' σ' H') → tWhile c tb { D with nx := nx' } σ H) : tWhile c tb D σ H := r D.nx g
theorem cutSt {st : TS} {D : Ends} {σ : L2.St} {H : Hp} (P : L2.St → Hp → Prop) (g : ∀ σ' H', P σ' H' → D.nx σ' H') (r : ∀ nx' : L2.St → Hp → Prop, (∀ σ' H', P σ' H' → nx' σ' H') → st { D with nx := nx' } σ H) : st D σ H := r D.nx g
theorem rep_flatV (n : Nat) (c : V) : (List.replicate n [c]).flatten = List.replicate n c := by
  induction n with
  | zero => rfl
  | succ n ih => rw [List.replicate_succ, List.flatten_cons, ih, List.replicate_succ]; rfl
/-! ### heaps -/
theorem sm_new {H0 H : Hp} {p : Addr} {o : HO} (s : Same H0 H) (n : H p = none) : Same H0 (upd H p o) := fun b u e => by
  have := s b u e
  rw [upd_ne (ne_of_none this n)]
  exact this
theorem sm_mut {H0 H : Hp} {p : Addr} {o : HO} (s : Same H0 H) (n : H0 p = none) : Same H0 (upd H p o) := fun b u e => by
  rw [upd_ne (ne_of_none e n)]
  exact s b u e
theorem _root_.L2.Same.sh {C : Addr} {H H' : Hp} {a : Addr} {p : P} (s : Same H H') (h : ShAt C H a p) : ShAt C H' a p := let ⟨dx, e⟩ := h; ⟨dx, s _ _ e⟩
theorem _root_.L2.Same.tup {K : PySem.W.Frag} {H H' : Hp} {a : Addr} {xs : List V} (e : Same H H') (h : SqT K H a xs) : SqT K H' a xs := by
  rcases h with (h | ⟨o, h⟩) | h
  · exact .inl (.inl (e _ _ h))
  · exact .inl (.inr ⟨o, e _ _ h⟩)
  · exact .inr h
theorem free_of_same {H0 H : Hp} {p : Addr} (s : Same H0 H) (n : H p = none) : H0 p = none := s.free n
theorem sh_lead (p : P) : (shF p).lookup ("lead" : Str) = some (tS p.lead) := by
  unfold shF
  rw [lookup_putF, if_neg (by decide +kernel), lookup_putF, if_neg (by decide +kernel), lookup_putF, if_neg (by decide +kernel), lookup_putF, if_neg (by decide +kernel), lookup_putF, if_pos rfl]
theorem sh_whole (p : P) : (shF p).lookup ("whole" : Str) = some (tS p.whole) := by
  unfold shF
  rw [lookup_putF, if_neg (by decide +kernel), lookup_putF, if_neg (by decide +kernel), lookup_putF, if_neg (by decide +kernel), lookup_putF, if_pos rfl]
theorem sh_broken (p : P) : (shF p).lookup ("broken" : Str) = some (tS p.broken) := by
  unfold shF
  rw [lookup_putF, if_neg (by decide +kernel), lookup_putF, if_neg (by decide +kernel), lookup_putF, if_pos rfl]
theorem sh_tail (p : P) : (shF p).lookup ("tail" : Str) = some (tS p.tail) := by
  unfold shF
  rw [lookup_putF, if_neg (by decide +kernel), lookup_putF, if_pos rfl]
theorem sh_first (p : P) : (shF p).lookup ("first" : Str) = some (tS [p.first]) := by
  unfold shF
  rw [lookup_putF, if_pos rfl]
theorem sh_no (p : P) {m : Str} (h1 : ¬ m = "first") (h2 : ¬ m = "tail") (h3 : ¬ m = "broken") (h4 : ¬ m = "whole") (h5 : ¬ m = "lead") : (shF p).lookup m = none := by
  unfold shF
  rw [lookup_putF, if_neg h1, lookup_putF, if_neg h2, lookup_putF, if_neg h3, lookup_putF, if_neg h4, lookup_putF, if_neg h5]
  all_goals rfl
theorem sh_floats (p : P) : (shF p).lookup ("floats" : Str) = none := sh_no p (by decide +kernel) (by decide +kernel) (by decide +kernel) (by decide +kernel) (by decide +kernel)
theorem sh_marks (p : P) : (shF p).lookup ("marks" : Str) = none := sh_no p (by decide +kernel) (by decide +kernel) (by decide +kernel) (by decide +kernel) (by decide +kernel)
theorem sh_before (p : P) : (shF p).lookup ("before" : Str) = none := sh_no p (by decide +kernel) (by decide +kernel) (by decide +kernel) (by decide +kernel) (by decide +kernel)
theorem sh_supp (p : P) : (shF p).lookup ("is_suppressed" : Str) = none := sh_no p (by decide +kernel) (by decide +kernel) (by decide +kernel) (by decide +kernel) (by decide +kernel)
theorem Dr.Pl {p : P} (h : Dr p) : Pl p.first p.whole := h.pl
end BXR
/-! how the drawn pictures are read: plain lists -/
namespace BXR
open BX
theorem rep_flat (n c : Nat) : (List.replicate n [c]).flatten = List.replicate n c := by
  induction n with
  | zero => rfl
  | succ n ih => rw [List.replicate_succ, List.flatten_cons, ih, List.replicate_succ]; rfl
theorem six {c : Nat} (h : c ∈ [57, 90, 42, 43, 45, 36]) : c = 57 ∨ c = 90 ∨ c = 42 ∨ c = 43 ∨ c = 45 ∨ c = 36 := by
  simpa only [List.mem_cons, List.not_mem_nil, or_false] using h
theorem ins4 {c : Nat} (h : c ∈ INS) : c = 44 ∨ c = 66 ∨ c = 48 ∨ c = 47 := by
  simpa only [INS, List.mem_cons, List.not_mem_nil, or_false] using h
theorem flt3 {c : Nat} : c ∈ FLT ↔ c = 43 ∨ c = 45 ∨ c = 36 := by
  simp only [FLT, List.mem_cons, List.not_mem_nil, or_false]
theorem lead6 {l : BX.T} (h : l ∈ ([[], [43], [45], [36], [43, 36], [45, 36]] : List BX.T)) : l = [] ∨ l = [43] ∨ l = [45] ∨ l = [36] ∨ l = [43, 36] ∨ l = [45, 36] := by
  simpa only [List.mem_cons, List.not_mem_nil, or_false] using h
theorem tail5 {l : BX.T} (h : l ∈ ([[], [43], [45], [67, 82], [68, 66]] : List BX.T)) : l = [] ∨ l = [43] ∨ l = [45] ∨ l = [67, 82] ∨ l = [68, 66] := by
  simpa only [List.mem_cons, List.not_mem_nil, or_false] using h
/-- the signs of a whole part are few -/
theorem wh_set {p : P} (h : Dr p) : ∀ c ∈ p.whole, c ∈ [57, 90, 42, 43, 45, 36, 44, 66, 48, 47] := by
  intro c hc
  simp only [List.mem_cons, List.not_mem_nil, or_false]
  rcases h.sy c hc with e | e | e
  · have := six h.f6; omega
  · omega
  · have := ins4 e; omega
theorem br_set {p : P} (h : Dr p) : ∀ c ∈ p.broken, c = 57 ∨ c = 90 ∨ c = 42 := by
  intro c hc
  rcases h.br with ⟨n, _, e⟩ | ⟨h1, _, n, _, e⟩
  · rw [e] at hc; exact .inl (List.mem_replicate.mp hc).2
  · rw [e] at hc
    have := (List.mem_replicate.mp hc).2
    omega
theorem br_len {p : P} (h : Dr p) : p.broken.length ≤ 3 := by
  rcases h.br with ⟨n, hn, e⟩ | ⟨_, _, n, hn, e⟩ <;> rw [e, List.length_replicate] <;> exact hn
theorem lead_len {p : P} (h : Dr p) : p.lead.length ≤ 2 := by
  rcases lead6 h.ld with e | e | e | e | e | e <;> rw [e] <;> decide
theorem tail_len {p : P} (h : Dr p) : p.tail.length ≤ 2 := by
  rcases tail5 h.tl with e | e | e | e | e <;> rw [e] <;> decide
theorem dot_len {p : P} (h : Dr p) : (dot p).length ≤ 4 := by
  unfold dot
  have := br_len h
  split
  · simp
  · rw [List.length_cons]; omega
theorem line_len {p : P} (h : Dr p) : (line p).length ≤ 48 := by
  unfold line
  have := lead_len h; have := tail_len h; have := dot_len h; have := h.ln
  simp only [List.length_append]
  omega
theorem line_set {p : P} (h : Dr p) : ∀ c ∈ line p, c ∈ [57, 90, 42, 43, 45, 36, 44, 66, 48, 47, 46, 67, 82, 68] := by
  intro c hc
  unfold line at hc
  rcases List.mem_append.mp hc with hc | hc
  · rcases List.mem_append.mp hc with hc | hc
    · rcases List.mem_append.mp hc with hc | hc
      · rcases lead6 h.ld with e | e | e | e | e | e <;> rw [e] at hc <;> simp at hc <;> simp <;> omega
      · have := wh_set h c hc
        simp only [List.mem_cons, List.not_mem_nil, or_false] at this ⊢
        omega
    · unfold dot at hc
      split at hc
      · simp at hc
      · rcases List.mem_cons.mp hc with e | hc
        · simp [e]
        · have := br_set h c hc
          simp only [List.mem_cons, List.not_mem_nil, or_false]
          omega
  · rcases tail5 h.tl with e | e | e | e | e <;> rw [e] at hc <;> simp at hc <;> simp <;> omega
theorem line_no {p : P} (h : Dr p) {c : Nat} (hc : c ∉ [57, 90, 42, 43, 45, 36, 44, 66, 48, 47, 46, 67, 82, 68]) : c ∉ line p := fun m => hc (line_set h c m)
theorem first_in {p : P} (h : Dr p) : p.first ∈ line p := by
  obtain ⟨w, e⟩ := h.hd
  unfold line
  rw [e]
  simp
theorem body_eq (p : P) : (line p).drop p.lead.length = p.whole ++ dot p ++ p.tail := by
  unfold line
  rw [List.append_assoc, List.append_assoc, List.drop_left, List.append_assoc]
/-! ### the lead -/
theorem frow_ge (f : Nat) : ∀ (l : BX.T) (k en : Nat), en ≤ k → en ≤ frow f k l en
  | [], _, _, _ => Nat.le_refl _
  | c :: l, k, en, h => by
    rw [frow_cons]
    split
    · exact Nat.le_trans (by omega) (frow_ge f l (k + 1) (k + 1) (Nat.le_refl _))
    · split
      · exact frow_ge f l (k + 1) en (by omega)
      · exact Nat.le_refl _
theorem plc_cons (c : Nat) (w : BX.T) : plc (c :: w) = if c ∈ INS then plc w else c :: plc w := by
  unfold plc
  rw [List.filter_cons]
  by_cases h : c ∈ INS
  · rw [if_neg (by simp [h]), if_pos h]
  · rw [if_pos (by simp [h]), if_neg h]
theorem frow_two (f : Nat) (hf : f ∉ INS) : ∀ (w r : BX.T) (k en : Nat), (∃ q, plc w = f :: q) → en ≤ k → k + 1 ≤ frow f k (w ++ r) en
  | [], _, _, _, ⟨_, h⟩, _ => by simp [plc] at h
  | c :: w, r, k, en, ⟨q, h⟩, he => by
    rw [List.cons_append, frow_cons]
    rw [plc_cons] at h
    by_cases hc : c ∈ INS
    · rw [if_pos hc] at h
      have hcf : ¬ c = f := fun e => hf (e ▸ hc)
      rw [if_neg hcf, if_pos hc]
      have := frow_two f hf w r (k + 1) en ⟨q, h⟩ (by omega)
      omega
    · rw [if_neg hc] at h
      injection h with h1 _
      rw [if_pos h1]
      exact frow_ge f (w ++ r) (k + 1) (k + 1) (Nat.le_refl _)
theorem floatRow_pos {p : P} (h : Dr p) (hf : p.first ∈ FLT) (r : BX.T) : 0 < floatRow (p.whole ++ r) := by
  obtain ⟨w, e⟩ := h.hd
  obtain ⟨a, b, ep, h1, h2, _⟩ := h.pl
  have ha := h2 hf
  have hq : ∃ q, plc w = p.first :: q := by
    rw [e, plc_cons, if_neg h.fins] at ep
    obtain ⟨a, rfl⟩ : ∃ a', a = a' + 2 := ⟨a - 2, by omega⟩
    rw [List.replicate_succ, List.replicate_succ, List.cons_append, List.cons_append] at ep
    injection ep with _ ep
    exact ⟨_, ep⟩
  have key := frow_two p.first h.fins w r 1 1 hq (Nat.le_refl _)
  rw [e, List.cons_append]
  show 0 < if p.first ∈ FLT then (if 1 < frow p.first 0 (p.first :: (w ++ r)) 0 then frow p.first 0 (p.first :: (w ++ r)) 0 else 0) else 0
  have key2 : 1 < frow p.first (0 + 1) (w ++ r) (0 + 1) := key
  rw [if_pos hf, frow_cons, if_pos rfl, if_pos key2]
  exact Nat.lt_of_lt_of_le (by decide) key2
theorem floatRow_one {f c : Nat} {r : BX.T} (hc : c ≠ f) (hi : c ∉ INS) : floatRow (f :: c :: r) = 0 := by
  show (if f ∈ FLT then (if 1 < frow f 0 (f :: c :: r) 0 then _ else 0) else 0) = 0
  rw [frow_cons, if_pos rfl, frow_cons, if_neg hc, if_neg hi]
  split
  · rfl
  · rfl
theorem floatRow_no {f : Nat} {r : BX.T} (hf : f ∉ FLT) : floatRow (f :: r) = 0 := by
  show (if f ∈ FLT then _ else 0) = 0
  rw [if_neg hf]
theorem lead_ok {p : P} (h : Dr p) : leadOf (line p) = p.lead := by
  obtain ⟨w, e⟩ := h.hd
  have hl : line p = p.lead ++ (p.whole ++ (dot p ++ p.tail)) := by unfold line; simp only [List.append_assoc]
  have hi := h.fins
  rcases lead6 h.ld with q | q | q | q | q | q
  · rw [hl, q, List.nil_append]
    unfold leadOf
    by_cases hf : p.first ∈ FLT
    · rw [if_pos (.inl (floatRow_pos h hf _))]
    · rw [flt3] at hf
      refine if_pos (Or.inr ?_)
      rw [e]
      show ¬ ([p.first] = [43] ∨ [p.first] = [45] ∨ [p.first] = [36])
      rintro (z | z | z)
      · exact hf (.inl (by simpa using z))
      · exact hf (.inr (.inl (by simpa using z)))
      · exact hf (.inr (.inr (by simpa using z)))
  · have hf : p.first ≠ 43 := fun z => by have := (h.l1 (.inl z)).1; rw [q] at this; simp at this
    rw [hl, q, e]
    show leadOf (43 :: p.first :: (w ++ (dot p ++ p.tail))) = [43]
    unfold leadOf
    rw [floatRow_one hf hi, if_neg (by simp)]
    rw [if_neg ?_]
    · rfl
    · rintro ⟨z, z2⟩
      have h36 : p.first = 36 := by simpa using z
      have := floatRow_pos h (by rw [h36]; decide) (dot p ++ p.tail)
      rw [e] at this
      have z2 : floatRow (p.first :: (w ++ (dot p ++ p.tail))) = 0 := z2
      rw [List.cons_append, z2] at this
      omega
  · have hf : p.first ≠ 45 := fun z => by have := (h.l1 (.inr z)).2; rw [q] at this; simp at this
    rw [hl, q, e]
    show leadOf (45 :: p.first :: (w ++ (dot p ++ p.tail))) = [45]
    unfold leadOf
    rw [floatRow_one hf hi, if_neg (by simp)]
    rw [if_neg ?_]
    · rfl
    · rintro ⟨z, z2⟩
      have h36 : p.first = 36 := by simpa using z
      have := floatRow_pos h (by rw [h36]; decide) (dot p ++ p.tail)
      rw [e] at this
      have z2 : floatRow (p.first :: (w ++ (dot p ++ p.tail))) = 0 := z2
      rw [List.cons_append, z2] at this
      omega
  · have hf : p.first ≠ 36 := fun z => by have := h.l2 z; rw [q] at this; simp at this
    rw [hl, q, e]
    show leadOf (36 :: p.first :: (w ++ (dot p ++ p.tail))) = [36]
    unfold leadOf
    rw [floatRow_one hf hi, if_neg (by simp), if_neg (by simp)]
    rfl
  · have hf : p.first ≠ 36 := fun z => by have := h.l2 z; rw [q] at this; simp at this
    rw [hl, q, e]
    show leadOf (43 :: 36 :: p.first :: (w ++ (dot p ++ p.tail))) = [43, 36]
    unfold leadOf
    rw [floatRow_one (by decide) (by decide), if_neg (by simp), if_pos ⟨.inl rfl, floatRow_one hf hi⟩]
    rfl
  · have hf : p.first ≠ 36 := fun z => by have := h.l2 z; rw [q] at this; simp at this
    rw [hl, q, e]
    show leadOf (45 :: 36 :: p.first :: (w ++ (dot p ++ p.tail))) = [45, 36]
    unfold leadOf
    rw [floatRow_one (by decide) (by decide), if_neg (by simp), if_pos ⟨.inr rfl, floatRow_one hf hi⟩]
    rfl
/-! ### strip -/
theorem tw_mem {q : Nat → Bool} : ∀ {l : List Nat} {c : Nat}, c ∈ l.takeWhile q → q c = true
  | [], c, h => by simp at h
  | d :: l, c, h => by
    rw [List.takeWhile_cons] at h
    by_cases hd : q d = true
    · rw [if_pos hd] at h
      rcases List.mem_cons.mp h with e | h
      · rw [e]; exact hd
      · exact tw_mem h
    · rw [if_neg hd] at h
      simp at h
theorem tw_len {q : Nat → Bool} : ∀ (l : List Nat), (∀ c ∈ l, q c = true) → (l.takeWhile q).length = l.length
  | [], _ => rfl
  | c :: l, h => by rw [List.takeWhile_cons, if_pos (h c List.mem_cons_self), List.length_cons, tw_len l fun d m => h d (List.mem_cons_of_mem _ m), List.length_cons]
theorem stripL_nil {a b : List Nat} (h : ∀ c ∈ a, c ∈ b) : stripL a b = [] := by
  unfold stripL stripLoL
  rw [tw_len a fun c m => decide_eq_true (h c m), List.drop_length]
  simp
theorem stripL_all {a b : List Nat} (h : stripL a b = []) : ∀ c ∈ a, c ∈ b := by
  unfold stripL stripLoL at h
  intro c hc
  have e : a = a.takeWhile (fun c => decide (c ∈ b)) ++ a.drop (a.takeWhile fun c => decide (c ∈ b)).length := by
    conv => lhs; rw [← List.takeWhile_append_dropWhile (p := fun c => decide (c ∈ b)) (l := a)]
    congr 1
    have := List.takeWhile_append_dropWhile (p := fun c => decide (c ∈ b)) (l := a)
    conv => rhs; rw [← this]
    rw [List.drop_append_of_le_length (by rw [this]; exact Nat.le_refl _)]
    rw [this, List.drop_eq_nil_of_le (Nat.le_refl _), List.nil_append]
  generalize hr : a.drop (a.takeWhile fun c => decide (c ∈ b)).length = r at h e
  have hpre : ∀ c ∈ a.takeWhile (fun c => decide (c ∈ b)), c ∈ b := fun c m => of_decide_eq_true (tw_mem (q := fun c => decide (c ∈ b)) m)
  rw [e] at hc
  rcases List.mem_append.mp hc with hc | hc
  · exact hpre c hc
  · have hlen : a.length = (a.takeWhile fun c => decide (c ∈ b)).length + r.length := by
      conv => lhs; rw [e]
      rw [List.length_append]
    have h0 : r.take (a.length - (r.reverse.takeWhile fun c => decide (c ∈ b)).length - (a.takeWhile fun c => decide (c ∈ b)).length) = [] := h
    have h1 : (r.reverse.takeWhile fun c => decide (c ∈ b)).length = r.reverse.length := by
      have h2 := congrArg List.length h0
      rw [List.length_take, List.length_nil] at h2
      have h3 := BX.takeWhile_len_le r.reverse fun c => decide (c ∈ b)
      rw [List.length_reverse] at h3 ⊢
      omega
    have h4 : r.reverse.takeWhile (fun c => decide (c ∈ b)) = r.reverse := by
      have := List.takeWhile_prefix (fun c => decide (c ∈ b)) (l := r.reverse)
      exact this.eq_of_length h1
    have : c ∈ r.reverse.takeWhile (fun c => decide (c ∈ b)) := by rw [h4]; exact List.mem_reverse.mpr hc
    exact of_decide_eq_true (tw_mem (q := fun c => decide (c ∈ b)) this)
/-! ### the tail -/
theorem suf_mem {a b : Nat} {l : List Nat} (h : [a, b] <:+ l) : a ∈ l := by
  obtain ⟨t, e⟩ := h
  rw [← e]
  simp
theorem drop_app (x t : List Nat) : (x ++ t).drop ((x ++ t).length - t.length) = t := by
  rw [List.length_append, Nat.add_sub_cancel, List.drop_left]
theorem tailOf_app {x : List Nat} (i : List Nat) (d : Nat) (hx : x = i ++ [d]) (hd : d ≠ 43 ∧ d ≠ 45) (hs : 67 ∉ x ∧ 68 ∉ x) {t : BX.T} (ht : t ∈ ([[], [43], [45], [67, 82], [68, 66]] : List BX.T)) : tailOf (x ++ t) = t := by
  unfold tailOf
  rcases tail5 ht with e | e | e | e | e
  · rw [e, List.append_nil]
    rw [if_neg (fun z => z.elim (fun z => hs.1 (suf_mem z)) fun z => hs.2 (suf_mem z))]
    have : x.drop (x.length - 1) = [d] := by
      rw [hx]
      exact drop_app i [d]
    rw [this, if_neg]
    rintro (z | z)
    · exact hd.1 (by simpa using z)
    · exact hd.2 (by simpa using z)
  · rw [e]
    have a1 : ¬ ([67, 82] <:+ x ++ [43] ∨ [68, 66] <:+ x ++ [43]) := by
      rintro (z | z)
      · have := suf_mem z; simp at this; exact hs.1 this
      · have := suf_mem z; simp at this; exact hs.2 this
    have e2 : (x ++ [43]).drop ((x ++ [43]).length - 1) = [43] := drop_app x [43]
    rw [if_neg a1, e2]
    exact if_pos (Or.inl rfl)
  · rw [e]
    have a1 : ¬ ([67, 82] <:+ x ++ [45] ∨ [68, 66] <:+ x ++ [45]) := by
      rintro (z | z)
      · have := suf_mem z; simp at this; exact hs.1 this
      · have := suf_mem z; simp at this; exact hs.2 this
    have e2 : (x ++ [45]).drop ((x ++ [45]).length - 1) = [45] := drop_app x [45]
    rw [if_neg a1, e2]
    exact if_pos (Or.inr rfl)
  · rw [e, if_pos (.inl (List.suffix_append _ _))]
    exact drop_app x [67, 82]
  · rw [e, if_pos (.inr (List.suffix_append _ _))]
    exact drop_app x [68, 66]
theorem snoc_of {x : List Nat} (h : x ≠ []) : ∃ i d, x = i ++ [d] := ⟨x.dropLast, x.getLast h, (List.dropLast_concat_getLast h).symm⟩
theorem wh_ne {p : P} (h : Dr p) : p.whole ≠ [] := by obtain ⟨w, e⟩ := h.hd; rw [e]; simp
theorem wh_no {p : P} (h : Dr p) {c : Nat} (hc : c ∉ [57, 90, 42, 43, 45, 36, 44, 66, 48, 47]) : c ∉ p.whole := fun m => hc (wh_set h c m)
/-- what is told of the end of a text without a point -/
theorem tail_no_point {p : P} (h : Dr p) (hn : ¬ (stripL (p.whole ++ p.tail) (p.first :: INS) = [] ∧ (p.first = 43 ∨ p.first = 45))) : tailOf (p.whole ++ p.tail) = p.tail := by
  obtain ⟨i, d, e⟩ := snoc_of (wh_ne h)
  have hs : 67 ∉ p.whole ∧ 68 ∉ p.whole := ⟨wh_no h (by decide), wh_no h (by decide)⟩
  refine tailOf_app i d e ?_ hs h.tl
  by_cases hf : p.first = 43 ∨ p.first = 45
  · -- then there is a figure behind
    have ht : p.tail = [] := h.t1 (hf.elim .inl fun z => .inr (.inl z))
    rw [ht, List.append_nil] at hn
    have hne : ¬ ∀ c ∈ p.whole, c ∈ p.first :: INS := fun z => hn ⟨stripL_nil z, hf⟩
    have h57 : 57 ∈ p.whole := by
      refine Classical.byContradiction fun q => hne fun c hc => ?_
      rcases h.sy c hc with z | z | z
      · exact List.mem_cons.mpr (.inl z)
      · exact absurd (z ▸ hc) q
      · exact List.mem_cons.mpr (.inr z)
    obtain ⟨a, b, ep, _⟩ := h.pl
    by_cases hd : d ∈ INS
    · have := ins4 hd; omega
    · have e2 : plc p.whole = plc i ++ [d] := by
        rw [e]
        unfold plc
        rw [List.filter_append, List.filter_cons, if_pos (by simp [hd])]
        rfl
      have hb : 0 < b := by
        refine Nat.pos_of_ne_zero fun z => ?_
        have m : 57 ∈ plc p.whole := List.mem_filter.mpr ⟨h57, by decide⟩
        rw [ep, z, List.replicate_zero, List.append_nil] at m
        have := (List.mem_replicate.mp m).2
        omega
      obtain ⟨b, rfl⟩ : ∃ b', b = b' + 1 := ⟨b - 1, by omega⟩
      rw [ep, List.replicate_succ', ← List.append_assoc] at e2
      have := (List.append_inj' e2 rfl).2
      have : 57 = d := by simpa using this
      omega
  · have hm : d ∈ p.whole := by rw [e]; simp
    rcases h.sy d hm with z | z | z
    · rw [z]; exact ⟨fun q => hf (.inl q), fun q => hf (.inr q)⟩
    · omega
    · have := ins4 z; omega
theorem tail_point {p : P} (h : Dr p) (hb : p.broken ≠ []) : tailOf (p.broken ++ p.tail) = p.tail := by
  obtain ⟨i, d, e⟩ := snoc_of hb
  have hd : d ∈ p.broken := by rw [e]; simp
  refine tailOf_app i d e ?_ ⟨fun m => ?_, fun m => ?_⟩ h.tl
  · have := br_set h d hd; omega
  · have := br_set h _ m; omega
  · have := br_set h _ m; omega
/-! ### the rest -/
theorem spl_body {p : P} (h : Dr p) : TL.spl [46] 0 [] (p.whole ++ dot p ++ p.tail) = if p.broken = [] then [p.whole ++ p.tail] else [p.whole, p.broken ++ p.tail] := by
  have ht : 46 ∉ p.tail := fun m => by
    rcases tail5 h.tl with e | e | e | e | e <;> rw [e] at m <;> simp at m
  have hbr : 46 ∉ p.broken := fun m => by have := br_set h _ m; omega
  unfold dot
  by_cases hb : p.broken = []
  · rw [if_pos hb, if_pos hb, List.append_nil, TL.spl_last1 (by
      rw [List.mem_append]
      exact fun z => z.elim h.w46 ht), List.nil_append]
  · rw [if_neg hb, if_neg hb, List.append_assoc]
    show TL.spl [46] 0 [] (p.whole ++ ([46] ++ (p.broken ++ p.tail))) = _
    rw [TL.spl_part1 h.w46, List.nil_append, TL.spl_last1 (by
      rw [List.mem_append]
      exact fun z => z.elim hbr ht), List.nil_append]
theorem not_num {p : P} (h : Dr p) : isNum (line p) = false := by
  unfold isNum
  have : decide (∀ c ∈ line p, c = 57) = false := decide_eq_false fun z => by
    have hw : ∀ c ∈ p.whole, c = 57 := fun c m => z c (by unfold line; simp [m])
    have hl : ∀ c ∈ p.lead, c = 57 := fun c m => z c (by unfold line; simp [m])
    have htl : ∀ c ∈ p.tail, c = 57 := fun c m => z c (by unfold line; simp [m])
    have hd : ∀ c ∈ dot p, c = 57 := fun c m => z c (by unfold line; simp [m])
    refine h.nn ⟨?_, ?_, ?_, ?_, hw⟩
    · obtain ⟨w, e⟩ := h.hd
      exact hw _ (by rw [e]; simp)
    · rcases lead6 h.ld with e | e | e | e | e | e <;> rw [e] at hl ⊢ <;> simp at hl
    · unfold dot at hd
      split at hd
      · assumption
      · have := hd 46 (by simp); omega
    · rcases tail5 h.tl with e | e | e | e | e <;> rw [e] at htl ⊢ <;> simp at htl
  rw [this, Bool.false_and]
theorem bef_pos {p : P} (h : Dr p) : 1 ≤ bef p ∧ bef p ≤ 8 := by
  obtain ⟨a, b, ep, h1, h2, h3, _⟩ := h.pl
  unfold bef
  rw [ep, List.length_append, List.length_replicate, List.length_replicate]
  by_cases hf : p.first ∈ FLT
  · have := h2 hf
    rw [if_pos hf]; omega
  · rw [if_neg hf]; omega
theorem br_strip {p : P} (h : Dr p) : stripL p.broken [57] = [] ∨ ((p.first = 90 ∨ p.first = 42) ∧ stripL p.broken [p.first] = [] ∧ stripL (plc p.whole) [p.first] = []) := by
  rcases h.br with ⟨n, _, e⟩ | ⟨hf, h57, n, _, e⟩
  · left
    rw [e]
    exact stripL_nil fun c m => by rw [(List.mem_replicate.mp m).2]; simp
  · right
    refine ⟨hf, ?_, ?_⟩
    · rw [e]
      exact stripL_nil fun c m => by rw [(List.mem_replicate.mp m).2]; simp
    · refine stripL_nil fun c m => ?_
      obtain ⟨m1, m2⟩ := List.mem_filter.mp m
      rcases h.sy c m1 with z | z | z
      · rw [z]; simp
      · exact absurd (z ▸ m1) h57
      · simp [z] at m2
theorem sign_one {p : P} (h : Dr p) : (if 43 ∈ p.lead ∨ 45 ∈ p.lead then 1 else 0) + (if p.first = 43 ∨ p.first = 45 then 1 else 0) + (if p.tail ≠ [] then 1 else 0) ≤ (1 : Nat) := by
  by_cases h1 : 43 ∈ p.lead ∨ 45 ∈ p.lead
  · have ht : p.tail = [] := h.t1 (h1.elim (fun z => .inr (.inr (.inl z))) fun z => .inr (.inr (.inr z)))
    have hf : ¬ (p.first = 43 ∨ p.first = 45) := fun z => h1.elim (h.l1 z).1 (h.l1 z).2
    rw [if_pos h1, if_neg hf, if_neg (fun z => z ht)]
    omega
  · rw [if_neg h1]
    by_cases hf : p.first = 43 ∨ p.first = 45
    · have ht : p.tail = [] := h.t1 (hf.elim .inl fun z => .inr (.inl z))
      rw [if_pos hf, if_neg (fun z => z ht)]
      omega
    · rw [if_neg hf]
      split <;> omega
/-! ### figures -/
theorem dgs_nought : ∀ n : Nat, dgs n 0 = List.replicate n 48
  | 0 => rfl
  | n + 1 => by
    unfold dgs
    rw [show 0 / 10 = 0 from rfl, dgs_nought n, List.replicate_succ']
theorem zf_dgs : ∀ (n k : Nat), 1 ≤ n → k < 10 ^ n → List.replicate (n - (TL.numL k).length) 48 ++ TL.numL k = dgs n k
  | 0, _, h, _ => by omega
  | n + 1, k, _, hk => by
    by_cases h10 : k < 10
    · rw [TL.numL_lt h10]
      unfold dgs
      rw [show k / 10 = 0 by omega, dgs_nought, show k % 10 = k by omega]
      rfl
    · have hn : 1 ≤ n := by
        refine Nat.pos_of_ne_zero fun z => ?_
        rw [z] at hk
        simp at hk
        omega
      have ih := zf_dgs n (k / 10) hn (by rw [Nat.pow_succ] at hk; omega)
      rw [TL.numL_step (by omega)]
      unfold dgs
      rw [← ih, List.length_append, List.length_singleton, List.append_assoc]
      rw [show n + 1 - ((TL.numL (k / 10)).length + 1) = n - (TL.numL (k / 10)).length by omega]
theorem dgs_strip {n k : Nat} (h : k < 10 ^ n) (h0 : k ≠ 0) : stripL (dgs n k) [48] ≠ [] := fun z => h0 (zeros_num n k h fun c m => by
  have := stripL_all z c m
  simpa using this)
end BXR
/-! the law's own defs: the town, the promises -/
namespace BXR
open PySem PySem.Spec PyProof.Rows L2 BX
/-- f(k = v, ..) -/
theorem pe_callK0 {X : Cx} {CX : CXT} {k : Nat} {f : Addr} {fd : FuncData} {ps ks : List Str} {sp : Sp} {E : XK} {x : Str} {p pos : Pos} {kws : List Keyword} {tk : TA} {g : List Value → List Value → List Value} {gV : List V → List V → List V}
    (F : FnOk X.prog X.w X.K X.mg X.base CX k f fd ps sp) (hr : Room k X.A) (hg : Gl X x) (hm : X.mg x = some (.ref f)) (hk : PySem.W.keepIn X.K (.ref f) = true) (hb : KBinds X.K fd ps ks g gV) (hx : Passes CX X E)
    (hkw : PK X kws tk) (hall : (backToKw pos (keywordEach kws X.env)).all (·.1.isSome) = true := by rfl) (hks : (backToKw pos (keywordEach kws X.env)).filterMap (·.1) = ks := by rfl)
    (hdb : (x == ("__debug__" : Str)) = false := by decide)
    (hpl : ((backTo pos (starEach [] X.env)).any (·.1) || (backToKw pos (keywordEach kws X.env)).any (·.1.isNone)) = false := by rfl) :
    PE X (.Call (.Name x p) [] kws pos) (tCallK sp gV E tNil tk) := by
  refine ⟨fun pins s σ H Q I h => ?_⟩
  refine wpAny_Call_Name_kw (ld_glob I hg hm ?_ hdb)
  refine PySem.W.callWith_KW0 (first := []) (h₀ := X.base) I.ok.mod.kin hk hall (thn (hkw.run pos pins s σ H _ I h) fun ws s2 ⟨zs, H2, I2, rz, q2⟩ => ⟨I2.kIn, ?_⟩) hpl
  rw [hks]
  exact run_fnk (us := []) F hr hb hx I2 .nil rz q2
/-! ### the town -/
def Chg (t r : Addr) (H H' : Hp) : Prop := ∀ b u, H b = some u → b ≠ t → b ≠ r → H' b = some u
theorem Chg.refl {t r : Addr} (H : Hp) : Chg t r H H := fun _ _ e _ _ => e
theorem Chg.trans {t r : Addr} {H H1 H2 : Hp} (a : Chg t r H H1) (b : Chg t r H1 H2) : Chg t r H H2 := fun x u e h1 h2 => b x u (a x u e h1 h2) h1 h2
theorem _root_.L2.Same.chg {t r : Addr} {H H1 : Hp} (a : Same H H1) : Chg t r H H1 := fun x u e _ _ => a x u e
def keyed (kvs : List (Key × V)) : Prop := (kvs.map (·.1)).Nodup ∧ ∀ kv ∈ kvs, (∃ k : Nat, k < 64 ∧ kv.1 = .inl (k : Int)) ∧ ∃ z : Int, kv.2 = .int z
abbrev cS : Str := S [99, 111, 117, 110, 116]
abbrev rS : Str := S [114, 101, 115, 116, 115]
theorem crS : (cS = rS) = False := eq_false (by decide +kernel)
abbrev townK (c : Int) (r : Addr) : List (Key × V) := [(.inr cS, .int c), (.inr rS, .ref r)]
theorem town_count (c : Int) (r : Addr) : valV (townK c r) (.inr cS) = some (.int c) := valV_pos rfl
theorem town_rests (c : Int) (r : Addr) : valV (townK c r) (.inr rS) = some (.ref r) := by
  unfold valV townK
  rw [List.find?_cons, show decide ((Sum.inr cS : Key) = .inr rS) = false from decide_eq_false fun z => by
    have := Sum.inr.inj z
    rw [crS] at this; exact this]
  rw [List.find?_cons, show decide ((Sum.inr rS : Key) = .inr rS) = true from decide_eq_true rfl]
  rfl
theorem town_put (c z : Int) (r : Addr) : putK (townK c r) (.inr cS) (.int z) = townK z r := by
  have h2 : ¬ ((Sum.inr rS : Key) = .inr cS) := fun z => by
    have := (Sum.inr.inj z).symm
    rw [crS] at this; exact this
  have ha : (townK c r).any (fun kv => decide (kv.1 = Sum.inr cS)) = true := List.any_eq_true.mpr ⟨(.inr cS, .int c), List.mem_cons_self, decide_eq_true rfl⟩
  unfold putK
  rw [if_pos ha]
  unfold townK
  rw [List.map_cons, List.map_cons, List.map_nil, if_pos rfl, if_neg h2]
structure Tw (K : PySem.W.Frag) (H : Hp) (sc t r : Addr) (ns : List Int) : Prop where
  sq : SqL K H sc (ns.map V.int)
  ln : ns.length ≤ 63
  tn : ∃ c : Int, H t = some (.dK (townK c r))
  rs : ∃ kvs, H r = some (.dK kvs) ∧ keyed kvs
theorem SqL.chg {K : PySem.W.Frag} {t r sc : Addr} {H H' : Hp} {xs : List V} {ta ra : List (Key × V)} (c : Chg t r H H') (ht : H t = some (.dK ta)) (hr : H r = some (.dK ra)) (h : SqL K H sc xs) : SqL K H' sc xs := by
  have nt : ∀ u, H sc = some u → (∀ y, u ≠ .dK y) → H' sc = some u := fun u e n => c sc u e (fun z => by rw [z, ht] at e; cases e; exact n _ rfl) (fun z => by rw [z, hr] at e; cases e; exact n _ rfl)
  rcases h with (h | ⟨o, h⟩) | h
  · exact .inl (.inl (nt _ h fun _ z => by cases z))
  · exact .inl (.inr ⟨o, nt _ h fun _ z => by cases z⟩)
  · exact .inr h
theorem Tw.same {K : PySem.W.Frag} {H H' : Hp} {sc t r : Addr} {ns : List Int} (h : Tw K H sc t r ns) (s : Same H H') : Tw K H' sc t r ns := by
  obtain ⟨c, ht⟩ := h.tn
  obtain ⟨kvs, hr, hk⟩ := h.rs
  exact ⟨SqL.chg s.chg ht hr h.sq, h.ln, ⟨c, s _ _ ht⟩, ⟨kvs, s _ _ hr, hk⟩⟩
theorem nodup_lt : ∀ (n : Nat) (l : List Nat), l.Nodup → (∀ x ∈ l, x < n) → l.length ≤ n
  | 0, [], _, _ => Nat.le_refl _
  | 0, x :: _, _, h => absurd (h x List.mem_cons_self) (Nat.not_lt_zero _)
  | n + 1, l, hd, h => by
    have h1 : (l.erase n).length ≤ n := nodup_lt n _ (hd.erase n) fun x m => by
      have := (hd.mem_erase_iff).mp m
      have := h x this.2
      omega
    have := List.length_erase (a := n) (l := l)
    split at this <;> omega
theorem keyed_len {kvs : List (Key × V)} (h : keyed kvs) : kvs.length ≤ 64 := by
  obtain ⟨h1, h2⟩ := h
  have e : kvs.map (·.1) = (kvs.map fun kv => (match kv.1 with | .inl z => z.toNat | .inr _ => 0)).map fun n : Nat => (Sum.inl (n : Int) : Key) := by
    rw [List.map_map]
    refine List.map_congr_left fun kv m => ?_
    obtain ⟨⟨k, _, e⟩, _⟩ := h2 kv m
    show kv.1 = Sum.inl (((match kv.1 with | .inl z => z.toNat | .inr _ => 0 : Nat) : Nat) : Int)
    rw [e]
    rfl
  rw [e] at h1
  have := nodup_lt 64 _ (List.Pairwise.of_map (S := (· ≠ ·)) (fun n : Nat => (Sum.inl (n : Int) : Key)) (fun a b hab z => hab (by rw [z])) h1) fun x m => by
    obtain ⟨kv, m2, rfl⟩ := List.mem_map.mp m
    obtain ⟨⟨k, hk, e⟩, _⟩ := h2 kv m2
    show (match kv.1 with | .inl z => z.toNat | .inr _ => 0 : Nat) < 64
    rw [e]
    exact hk
  rw [List.length_map] at this
  exact this
theorem keyed_put {kvs : List (Key × V)} {k : Nat} {z : Int} (h : keyed kvs) (hk : k < 64) : keyed (putK kvs (.inl (k : Int)) (.int z)) := by
  obtain ⟨h1, h2⟩ := h
  unfold putK
  split
  · refine ⟨?_, fun kv m => ?_⟩
    · have : (kvs.map fun kv : Key × V => if kv.1 = .inl (k : Int) then (kv.1, V.int z) else kv).map (·.1) = kvs.map (·.1) := by
        rw [List.map_map]
        refine List.map_congr_left fun kv m => ?_
        show (if _ then _ else _ : Key × V).1 = _
        split <;> rfl
      rw [this]; exact h1
    · obtain ⟨kv0, m0, rfl⟩ := List.mem_map.mp m
      obtain ⟨a, b⟩ := h2 kv0 m0
      split
      · exact ⟨a, z, rfl⟩
      · exact ⟨a, b⟩
  · rename_i hn
    refine ⟨?_, fun kv m => ?_⟩
    · rw [List.map_append, List.nodup_append]
      refine ⟨h1, by simp, fun a ha b hb e => ?_⟩
      have hb : b = .inl (k : Int) := by simpa using hb
      obtain ⟨kv, m, e2⟩ := List.mem_map.mp ha
      refine hn (List.any_eq_true.mpr ⟨kv, m, decide_eq_true ?_⟩)
      rw [e2, e, hb]
    · rcases List.mem_append.mp m with m | m
      · exact h2 kv m
      · rw [List.mem_singleton.mp m]
        exact ⟨⟨k, hk, rfl⟩, z, rfl⟩
theorem keyed_get {kvs : List (Key × V)} {k : Key} {v : V} (h : keyed kvs) (e : valV kvs k = some v) : ∃ z : Int, v = .int z := by
  unfold valV at e
  cases hq : kvs.find? (fun kv => decide (kv.1 = k)) with
  | none => rw [hq] at e; cases e
  | some kv =>
    rw [hq] at e
    have e : kv.2 = v := by simpa using e
    obtain ⟨z, hz⟩ := (h.2 kv (List.mem_of_find?_eq_some hq)).2
    exact ⟨z, by rw [← e]; exact hz⟩
theorem plc_app (a b : BX.T) : plc (a ++ b) = plc a ++ plc b := List.filter_append _ _
theorem plc_ins {a : BX.T} (h : ∀ c ∈ a, c ∈ INS) : plc a = [] := List.filter_eq_nil_iff.mpr fun c m => by
  rw [decide_eq_true (h c m)]; decide
theorem plc_one {f : Nat} (h : f ∉ INS) : plc [f] = [f] := by
  unfold plc
  rw [List.filter_cons, decide_eq_false h]
  rfl
theorem Tw.ne {K : PySem.W.Frag} {H : Hp} {sc t r : Addr} {ns : List Int} (h : Tw K H sc t r ns) : t ≠ r := fun z => by
  obtain ⟨c, ht⟩ := h.tn
  obtain ⟨kvs, hr, hk⟩ := h.rs
  subst z
  rw [ht] at hr
  cases hr
  obtain ⟨⟨k, _, e⟩, _⟩ := hk.2 (.inr cS, .int c) List.mem_cons_self
  cases e
theorem chg_t {t r : Addr} {H : Hp} {o : HO} : Chg t r H (upd H t o) := fun b u e h1 _ => by rw [upd_ne h1]; exact e
theorem chg_r {t r : Addr} {H : Hp} {o : HO} : Chg t r H (upd H r o) := fun b u e _ h1 => by rw [upd_ne h1]; exact e
theorem Tw.tick {K : PySem.W.Frag} {H : Hp} {sc t r : Addr} {ns : List Int} (h : Tw K H sc t r ns) (c : Int) : Tw K (upd H t (.dK (townK c r))) sc t r ns := by
  obtain ⟨c0, ht⟩ := h.tn
  obtain ⟨kvs, hr, hk⟩ := h.rs
  exact ⟨SqL.chg chg_t ht hr h.sq, h.ln, ⟨c, upd_same⟩, ⟨kvs, by rw [upd_ne (Ne.symm h.ne)]; exact hr, hk⟩⟩
theorem Tw.rest {K : PySem.W.Frag} {H : Hp} {sc t r : Addr} {ns : List Int} (h : Tw K H sc t r ns) {kvs : List (Key × V)} (hk : keyed kvs) : Tw K (upd H r (.dK kvs)) sc t r ns := by
  obtain ⟨c0, ht⟩ := h.tn
  obtain ⟨kvs0, hr, _⟩ := h.rs
  exact ⟨SqL.chg chg_r ht hr h.sq, h.ln, ⟨c0, by rw [upd_ne h.ne]; exact ht⟩, ⟨kvs, upd_same, hk⟩⟩
theorem atI_nat {α : Type} (xs : List α) (i : Nat) : atI xs (i : Int) = xs[i]? := by
  unfold atI ixN
  rw [if_pos (Int.natCast_nonneg i)]
  by_cases h : i < xs.length
  · rw [if_pos (by omega)]; rfl
  · rw [if_neg (by omega), List.getElem?_eq_none (by omega)]; rfl
/-! ### the promises -/
def spDraw (K : PySem.W.Frag) : Sp := fun vs H Q _ => ∃ (sc t r : Addr) (ns : List Int) (m : Nat), vs = [.ref sc, .ref t, .int m] ∧ Tw K H sc t r ns ∧ 1 ≤ m ∧ m ≤ 100 ∧ ∀ (z : Nat) H', z < m → Tw K H' sc t r ns → Chg t r H H' → Q (.int z) H'
def spBegun : Sp := fun vs H Q _ => vs = [] ∧ ∀ t r H', Same H H' → H' t = some (.dK (townK 0 r)) → H' r = some (.dK []) → H t = none → H r = none → Q (.ref t) H'
def spPlaces (K : PySem.W.Frag) : Sp := fun vs H Q _ => ∃ (sc t r : Addr) (ns : List Int) (f m : Nat), vs = [.ref sc, .ref t, tS [f], .int m] ∧ Tw K H sc t r ns ∧ f ∉ INS ∧ 1 ≤ m ∧ m ≤ 4 ∧
  ∀ (w : BX.T) (k : Nat) H', 1 ≤ k → k ≤ m → plc w = List.replicate k f → (∃ x, w = f :: x) → w.length ≤ 3 * k → Tw K H' sc t r ns → Chg t r H H' → Q (tS w) H'
def spAnEd (K : PySem.W.Frag) : Sp := fun vs H Q _ => ∃ (sc t r : Addr) (ns : List Int), vs = [.ref sc, .ref t] ∧ Tw K H sc t r ns ∧
  ∀ (p : P) (a : Addr) H', Dr p → H' a = some (.tup [tS p.lead, tS [p.first], tS p.whole, tS p.broken, tS p.tail]) → Tw K H' sc t r ns → Chg t r H H' → Q (.ref a) H'
def spLine (K : PySem.W.Frag) : Sp := fun vs H Q _ => ∃ (p : P) (a : Addr), vs = [.ref a] ∧ Dr p ∧ SqT K H a [tS p.lead, tS [p.first], tS p.whole, tS p.broken, tS p.tail] ∧ ∀ H', Same H H' → Q (tS (line p)) H'
def spLaw (K : PySem.W.Frag) : Sp := fun vs H Q _ => ∃ (sc : Addr) (ns : List Int), vs = [.ref sc] ∧ SqL K H sc (ns.map V.int) ∧ ns.length ≤ 63 ∧ ∀ H', Q (.bl true) H'
theorem pickD {K : PySem.W.Frag} {H : Hp} {sc t r : Addr} {ns : List Int} (ls : List BX.T) {E : XK} {Q : VK} {m : Int} (hT : Tw K H sc t r ns) (h1 : 1 ≤ ls.length) (h2 : ls.length ≤ 100) (hm : m = ((ls.length : Nat) : Int)) (q : Addr) (hq : H q = none)
    (g : ∀ l ∈ ls, ∀ H', Tw K H' sc t r ns → Chg t r H H' → Q (tS l) H') : spDraw K [.ref sc, .ref t, .int m] (upd H q (.lst (ls.map tS))) (fun y H' => rIxL K (.ref q) y H' Q) E := by
  subst hm
  have s := sm_new (o := .lst (ls.map tS)) (Same.refl H) hq
  obtain ⟨c, ht⟩ := hT.tn
  obtain ⟨kvs, hr, _⟩ := hT.rs
  refine ⟨sc, t, r, ns, ls.length, rfl, hT.same s, h1, h2, fun z H' hz hT' c' => ?_⟩
  have e : H' q = some (.lst (ls.map tS)) := c' q _ upd_same (Ne.symm (ne_of_none ht hq)) (Ne.symm (ne_of_none hr hq))
  exact ⟨q, ls.map tS, z, _, rfl, rfl, SqL.of e, by rw [atI_nat, List.getElem?_map, List.getElem?_eq_getElem hz]; rfl, g _ (List.getElem_mem hz) H' hT' (s.chg.trans c')⟩
structure CalK (P : Program) (w : World) (K : PySem.W.Frag) (mg : Str → Option Value) (base : Heap) (x : Str) (k : Nat) (ps : List Str) (sp : Sp) : Prop where
  ex : ∃ (f : Addr) (fd : FuncData), FnOk P w K mg base CX0 k f fd ps sp ∧ mg x = some (.ref f) ∧ PySem.W.keepIn K (.ref f) = true ∧ Binds K fd ps [] ∧ KBinds K fd ps ps (fun us ws => us ++ ws) (fun us ws => us ++ ws)
end BXR
/-! the law's plain part: the groups of amounts by their text -/
namespace BXR
open PySem PySem.Spec PyProof.Rows L2 BX
theorem num_ten (n : Nat) : num ([49] ++ (List.replicate n [48]).flatten) = 10 ^ n := by
  rw [rep_flat]
  induction n with
  | zero => rfl
  | succ n ih => rw [List.replicate_succ', ← List.append_assoc, num_snoc, ih, Nat.pow_succ]; rfl
theorem ten_ok (n : Nat) (h : n ≤ 20) : (∀ c ∈ ([49] ++ (List.replicate n [48]).flatten : BX.T), c ∈ FIG) ∧ ([49] ++ (List.replicate n [48]).flatten : BX.T) ≠ [] ∧ ([49] ++ (List.replicate n [48]).flatten : BX.T).length ≤ 100 := by
  rw [rep_flat]
  refine ⟨fun c m => ?_, (by simp), ?_⟩
  · rcases List.mem_append.mp m with m | m
    · rw [List.mem_singleton.mp m]; decide
    · rw [(List.mem_replicate.mp m).2]; decide
  · rw [List.length_append, List.length_replicate]
    show 1 + n ≤ 100
    omega
abbrev un (W i : Nat) : Int := 1 - (W : Int) + (i : Int)
def units (W i : Nat) : List Int := (List.range i).map (un W)
def grp (p : P) (W i : Nat) (x : BX.T) : List Int := (units W i).filter fun v => decide (tx p v = x)
def cntN (p : P) (W : Nat) : Nat := if shows p = true then 2 * W - 1 else W
theorem units_succ (W i : Nat) : units W (i + 1) = units W i ++ [un W i] := by
  unfold units
  rw [List.range_succ, List.map_append]; rfl
theorem mem_units {W i : Nat} {u : Int} : u ∈ units W i ↔ ∃ j, j < i ∧ u = un W j := by
  unfold units
  rw [List.mem_map]
  exact ⟨fun ⟨j, m, e⟩ => ⟨j, List.mem_range.mp m, e.symm⟩, fun ⟨j, m, e⟩ => ⟨j, List.mem_range.mpr m, e.symm⟩⟩
theorem units_nodup (W i : Nat) : (units W i).Nodup := by
  induction i with
  | zero => exact List.nodup_nil
  | succ i ih =>
    rw [units_succ, List.nodup_append]
    refine ⟨ih, by simp, fun a ha b hb e => ?_⟩
    obtain ⟨j, hj, rfl⟩ := mem_units.mp ha
    have hb := List.mem_singleton.mp hb
    subst hb
    unfold un at e
    omega
theorem grp_eq {p : P} {W i : Nat} {x : BX.T} (h : tx p (un W i) = x) : grp p W (i + 1) x = grp p W i x ++ [un W i] := by
  unfold grp
  rw [units_succ, List.filter_append, List.filter_cons, if_pos (decide_eq_true h), List.filter_nil]
theorem grp_ne {p : P} {W i : Nat} {x : BX.T} (h : ¬ tx p (un W i) = x) : grp p W (i + 1) x = grp p W i x := by
  unfold grp
  rw [units_succ, List.filter_append, List.filter_cons, if_neg (by rw [decide_eq_false h]; decide), List.filter_nil, List.append_nil]
theorem mem_grp {p : P} {W i : Nat} {x : BX.T} {v : Int} : v ∈ grp p W i x ↔ v ∈ units W i ∧ tx p v = x := by
  unfold grp
  rw [List.mem_filter]
  exact ⟨fun h => ⟨h.1, of_decide_eq_true h.2⟩, fun h => ⟨h.1, decide_eq_true h.2⟩⟩
theorem un_lt {W i : Nat} (h : i < 2 * W - 1) : (un W i).natAbs < W := by unfold un; omega
theorem seen_iff {p : P} (hd : Dr p) {W i : Nat} (hW : W = 10 ^ whl p) (hi : i < 2 * W - 1) : (∃ v ∈ units W i, tx p v = tx p (un W i)) ↔ cntN p W ≤ i := by
  have a : ∀ j, j < 2 * W - 1 → (un W j).natAbs < 10 ^ (bef p + beh p) := fun j h => by
    have := un_lt h
    have e : W = 10 ^ (bef p + beh p) := hW
    omega
  constructor
  · rintro ⟨v, hv, e⟩
    obtain ⟨j, hj, rfl⟩ := mem_units.mp hv
    unfold cntN
    split
    · rename_i hs
      have := tx_inj hd hs (a j (by omega)) (a i hi) e
      unfold un at this
      omega
    · have := tx_abs hd (a j (by omega)) (a i hi) e
      unfold un at this
      omega
  · intro h
    unfold cntN at h
    split at h
    · omega
    · rename_i hs
      refine ⟨un W (2 * W - 2 - i), mem_units.mpr ⟨_, by omega, rfl⟩, tx_neg (by simpa using hs) ?_⟩
      unfold un
      omega
structure GI (H : Hp) (kvs : List (Key × V)) (p : P) (W i : Nat) : Prop where
  len : kvs.length = min i (cntN p W)
  kv : ∀ kv ∈ kvs, ∃ u ∈ units W i, ∃ a, kv = (.inr (S (tx p u)), .ref a) ∧ H a = some (.lst ((grp p W i (tx p u)).map V.int))
  all : ∀ u ∈ units W i, ∃ kv ∈ kvs, kv.1 = .inr (S (tx p u))
theorem GI.zero {H : Hp} {p : P} {W : Nat} : GI H [] p W 0 := ⟨by simp, (fun kv m => by cases m), (fun u m => by cases m)⟩
theorem GI.mono {H H' : Hp} {kvs : List (Key × V)} {p : P} {W i : Nat} (g : GI H kvs p W i) (s : ∀ a xs, H a = some (.lst xs) → H' a = some (.lst xs)) : GI H' kvs p W i :=
  ⟨g.len, fun kv m => let ⟨u, hu, a, e, h⟩ := g.kv kv m; ⟨u, hu, a, e, s _ _ h⟩, g.all⟩
theorem GI.same {H H' : Hp} {kvs : List (Key × V)} {p : P} {W i : Nat} (g : GI H kvs p W i) (s : Same H H') : GI H' kvs p W i := g.mono fun a xs e => s a _ e
theorem GI.at {H : Hp} {kvs kv0 : List (Key × V)} {p : P} {W i : Nat} {d : Addr} {o : HO} (g : GI H kvs p W i) (hd : H d = some (.dK kv0)) : GI (upd H d o) kvs p W i := g.mono fun a xs e => by
  rw [upd_ne fun z => by rw [z, hd] at e; cases e]; exact e
theorem valV_some {kvs : List (Key × V)} {k : Key} {v : V} (h : valV kvs k = some v) : (k, v) ∈ kvs := by
  unfold valV at h
  cases hq : kvs.find? (fun kv => decide (kv.1 = k)) with
  | none => rw [hq] at h; cases h
  | some kv =>
    rw [hq] at h
    have e : kv.2 = v := by simpa using h
    have e1 : kv.1 = k := of_decide_eq_true (List.find?_some (p := fun kv : Key × V => decide (kv.1 = k)) hq)
    have := List.mem_of_find?_eq_some hq
    rw [← e, ← e1]
    exact this
theorem valV_none {kvs : List (Key × V)} {k : Key} (h : valV kvs k = none) : ∀ kv ∈ kvs, kv.1 ≠ k := fun kv m e => by
  unfold valV at h
  have h : kvs.find? (fun kv => decide (kv.1 = k)) = none := by simpa using h
  exact absurd (decide_eq_true e) (List.find?_eq_none.mp h kv m)
theorem GI.get {H : Hp} {kvs : List (Key × V)} {p : P} {W i : Nat} (g : GI H kvs p W i) (x : BX.T) :
    (∃ a, valV kvs (.inr (S x)) = some (.ref a) ∧ H a = some (.lst ((grp p W i x).map V.int)) ∧ ∃ v ∈ units W i, tx p v = x) ∨ (valV kvs (.inr (S x)) = none ∧ grp p W i x = [] ∧ ¬ ∃ v ∈ units W i, tx p v = x) := by
  cases hv : valV kvs (.inr (S x)) with
  | some v =>
    obtain ⟨u, hu, a, e, h⟩ := g.kv _ (valV_some hv)
    obtain ⟨e1, rfl⟩ := Prod.mk.inj e
    have e1 := S_inj (Sum.inr.inj e1)
    subst e1
    exact .inl ⟨a, rfl, h, u, hu, rfl⟩
  | none =>
    have hn : ¬ ∃ v ∈ units W i, tx p v = x := fun ⟨v, hm, e⟩ => by
      obtain ⟨kv, m, e2⟩ := g.all v hm
      rw [e] at e2
      exact valV_none hv kv m e2
    refine .inr ⟨rfl, List.filter_eq_nil_iff.mpr fun v m => ?_, hn⟩
    intro z
    exact hn ⟨v, m, of_decide_eq_true z⟩
theorem units_sub {W i : Nat} {u : Int} (h : u ∈ units W i) : u ∈ units W (i + 1) := by
  rw [units_succ]; exact List.mem_append_left _ h
theorem GI.step {H : Hp} {kvs : List (Key × V)} {p : P} {W i : Nat} {q : Addr} (g : GI H kvs p W i) (hd : Dr p) (hW : W = 10 ^ whl p) (hi : i < 2 * W - 1) (hq : H q = some (.lst ((grp p W i (tx p (un W i)) ++ [un W i]).map V.int))) :
    GI H (putK kvs (.inr (S (tx p (un W i)))) (.ref q)) p W (i + 1) := by
  have hsee := seen_iff hd hW hi
  have huI : un W i ∈ units W (i + 1) := by rw [units_succ]; exact List.mem_append_right _ (List.mem_singleton.mpr rfl)
  have new : ∃ u ∈ units W (i + 1), ∃ a, ((.inr (S (tx p (un W i))), .ref q) : Key × V) = (.inr (S (tx p u)), .ref a) ∧ H a = some (.lst ((grp p W (i + 1) (tx p u)).map V.int)) :=
    ⟨un W i, huI, q, rfl, by rw [grp_eq rfl]; exact hq⟩
  have old : ∀ kv ∈ kvs, kv.1 ≠ .inr (S (tx p (un W i))) → ∃ u ∈ units W (i + 1), ∃ a, kv = (.inr (S (tx p u)), .ref a) ∧ H a = some (.lst ((grp p W (i + 1) (tx p u)).map V.int)) := fun kv m hk => by
    obtain ⟨u, hu, a, e, h⟩ := g.kv kv m
    refine ⟨u, units_sub hu, a, e, ?_⟩
    rw [grp_ne fun z => hk (by rw [e, z])]
    exact h
  have hlen : (∃ v ∈ units W i, tx p v = tx p (un W i)) ↔ ∃ kv ∈ kvs, kv.1 = .inr (S (tx p (un W i))) := by
    constructor
    · rintro ⟨v, hv, e⟩
      obtain ⟨kv, m, e2⟩ := g.all v hv
      exact ⟨kv, m, by rw [e2, e]⟩
    · rintro ⟨kv, m, e⟩
      obtain ⟨u, hu, a, e2, _⟩ := g.kv kv m
      rw [e2] at e
      exact ⟨u, hu, S_inj (Sum.inr.inj e)⟩
  have hl := g.len
  unfold putK
  split
  · rename_i ha
    obtain ⟨kv0, m0, e0⟩ := List.any_eq_true.mp ha
    have e0 := of_decide_eq_true e0
    have hN := hsee.mp (hlen.mpr ⟨kv0, m0, e0⟩)
    refine ⟨by rw [List.length_map]; omega, fun kv m => ?_, fun u hu => ?_⟩
    · obtain ⟨kv1, m1, rfl⟩ := List.mem_map.mp m
      by_cases hk : kv1.1 = .inr (S (tx p (un W i)))
      · rw [if_pos hk, hk]; exact new
      · rw [if_neg hk]; exact old kv1 m1 hk
    · have : ∃ kv ∈ kvs, kv.1 = .inr (S (tx p u)) := by
        rw [units_succ] at hu
        rcases List.mem_append.mp hu with hu | hu
        · exact g.all u hu
        · rw [List.mem_singleton.mp hu]; exact ⟨kv0, m0, e0⟩
      obtain ⟨kv, m, e⟩ := this
      refine ⟨_, List.mem_map.mpr ⟨kv, m, rfl⟩, ?_⟩
      split
      · exact e
      · exact e
  · rename_i ha
    have hno : ¬ ∃ kv ∈ kvs, kv.1 = .inr (S (tx p (un W i))) := fun ⟨kv, m, e⟩ => ha (List.any_eq_true.mpr ⟨kv, m, decide_eq_true e⟩)
    have hN : ¬ cntN p W ≤ i := fun z => hno (hlen.mp (hsee.mpr z))
    refine ⟨by rw [List.length_append]; show _ + 1 = _; omega, fun kv m => ?_, fun u hu => ?_⟩
    · rcases List.mem_append.mp m with m | m
      · exact old kv m fun z => hno ⟨kv, m, z⟩
      · rw [List.mem_singleton.mp m]; exact new
    · rw [units_succ] at hu
      rcases List.mem_append.mp hu with hu | hu
      · obtain ⟨kv, m, e⟩ := g.all u hu
        exact ⟨kv, List.mem_append_left _ m, e⟩
      · rw [List.mem_singleton.mp hu]
        exact ⟨_, List.mem_append_right _ (List.mem_singleton.mpr rfl), rfl⟩
/-! what a whole group is -/
structure Grp (p : P) (u : Int) (us : List Int) : Prop where
  ne : 0 < us.length
  one : shows p = true → us.length = 1
  ab : ∀ v ∈ us, v.natAbs = u.natAbs
  mx : ∀ m ∈ us, (∀ y ∈ us, y ≤ m) → m = if shows p = true then u else (u.natAbs : Int)
theorem grp_ok {p : P} (hd : Dr p) {W : Nat} (hW : W = 10 ^ whl p) {u : Int} (hu : u ∈ units W (2 * W - 1)) : Grp p u (grp p W (2 * W - 1) (tx p u)) := by
  have a : ∀ v ∈ units W (2 * W - 1), v.natAbs < 10 ^ (bef p + beh p) := fun v hv => by
    obtain ⟨j, hj, rfl⟩ := mem_units.mp hv
    have := un_lt hj
    have e : W = 10 ^ (bef p + beh p) := hW
    omega
  have hm : u ∈ grp p W (2 * W - 1) (tx p u) := mem_grp.mpr ⟨hu, rfl⟩
  refine ⟨List.length_pos_of_mem hm, fun hs => ?_, fun v hv => ?_, fun m h1 h2 => ?_⟩
  · have hnd : (grp p W (2 * W - 1) (tx p u)).Nodup := (units_nodup W _).filter _
    have hall : ∀ v ∈ grp p W (2 * W - 1) (tx p u), v = u := fun v hv => by
      obtain ⟨h1, h2⟩ := mem_grp.mp hv
      exact tx_inj hd hs (a v h1) (a u hu) h2
    revert hnd hall hm
    generalize grp p W (2 * W - 1) (tx p u) = us
    intro hm hnd hall
    match us with
    | [] => cases hm
    | [x] => rfl
    | x :: y :: r =>
      have e1 := hall x List.mem_cons_self
      have e2 := hall y (List.mem_cons_of_mem _ List.mem_cons_self)
      rw [List.nodup_cons] at hnd
      exact absurd (by rw [e1, e2]; exact List.mem_cons_self) hnd.1
  · obtain ⟨h1, h2⟩ := mem_grp.mp hv
    exact tx_abs hd (a v h1) (a u hu) h2
  · obtain ⟨h3, h4⟩ := mem_grp.mp h1
    split
    · rename_i hs
      exact tx_inj hd hs (a m h3) (a u hu) h4
    · rename_i hs
      have e := tx_abs hd (a m h3) (a u hu) h4
      have hin : (u.natAbs : Int) ∈ units W (2 * W - 1) := by
        obtain ⟨j, hj, rfl⟩ := mem_units.mp hu
        have := un_lt hj
        refine mem_units.mpr ⟨(un W j).natAbs + W - 1, by omega, ?_⟩
        show _ = 1 - (W : Int) + (((un W j).natAbs + W - 1 : Nat) : Int)
        omega
      have := h2 _ (mem_grp.mpr ⟨hin, tx_neg (by simpa using hs) (by omega)⟩)
      omega
abbrev s_ten_to : Stmt := top 7
theorem sc_ten_to : FnScope ["places", "found", "turn"] ["places"] (defScope s_ten_to) := ⟨rfl, rfl, rfl, by decide +kernel, rfl, by decide +kernel, by decide +kernel⟩
theorem ok_ten_to {P : Program} {w : World} {K : PySem.W.Frag} {mg : Str → Option Value} {base : Heap} {f C : Addr} {fd : FuncData} (F : Fun K "ten_to" "ten_to" s_ten_to f fd) (T : Txt K mg C) :
    FnOk P w K mg base CX0 1 f fd ["places"] spTen := by
  refine F.ok sc_ten_to (fun vs H Q E h => ?_) (fun cdv A outer s H vs Q E hr h => ?_)
  · obtain ⟨n, rfl, hn, k⟩ := h
    rfl
  · obtain ⟨n, rfl, hn, k⟩ := h
    refine ⟨_, (pss_cons (ps_set (i := 1) sc_ten_to.nd rfl (Or.inl rfl) pe_int)
      (pss_cons (ps_for PassesOwn.never rfl (pi_range1 (by rfl) T.range (pa_cons (pv 0) pa_nil)) (pg_name (i := 2) sc_ten_to.nd rfl (Or.inl rfl)) (pss_one (ps_aug (i := 1) sc_ten_to.nd rfl (Or.inl rfl) pe_int iop_mul)))
      (pss_one (ps_ret (pv 1))))), ?_⟩
    refine ⟨_, rfl, _, rfl, by omega, by omega, for_range (lo := 0) (n := n) (fun i σ H' => ∃ v : Option V, σ = [some (.int n), some (.int ((10 ^ i : Nat) : Int)), v] ∧ H' = H) ⟨none, rfl, rfl⟩ ?_ ?_⟩
    · rintro i σ H' hi ⟨v, rfl, rfl⟩
      refine ⟨_, rfl, _, _, rfl, rfl, Or.inr ⟨by decide, by decide⟩, ?_⟩
      refine ⟨some (.int (0 + (i : Int))), ?_, rfl⟩
      show [some (V.int n), some (V.int (((10 ^ i : Nat) : Int) * 10)), some (V.int (0 + (i : Int)))] = _
      rw [Nat.pow_succ, Int.natCast_mul]
      rfl
    · rintro σ H' ⟨v, rfl, rfl⟩
      exact ⟨_, rfl, k⟩
abbrev s_cut_short : Stmt := top 8
theorem sc_cut_short : FnScope ["top", "bottom", "found"] ["top", "bottom"] (defScope s_cut_short) := ⟨rfl, rfl, rfl, by decide +kernel, rfl, by decide +kernel, by decide +kernel⟩
theorem ok_cut_short {P : Program} {w : World} {K : PySem.W.Frag} {mg : Str → Option Value} {base : Heap} {f C : Addr} {fd : FuncData} (F : Fun K "cut_short" "cut_short" s_cut_short f fd) (T : Txt K mg C) :
    FnOk P w K mg base CX0 1 f fd ["top", "bottom"] spCutShort := by
  refine F.ok sc_cut_short (fun vs H Q E h => ?_) (fun cdv A outer s H vs Q E hr h => ?_)
  · obtain ⟨u, k, rfl, hk, q⟩ := h
    rfl
  · obtain ⟨u, k, rfl, hk, q⟩ := h
    refine ⟨_, (pss_cons (ps_set (i := 2) sc_cut_short.nd rfl (Or.inl rfl) (pe_op op_fdiv (pe_callB call_abs (by rfl) T.abs (by decide +kernel) (pa_cons (pv 0) pa_nil)) (pe_callB call_abs (by rfl) T.abs (by decide +kernel) (pa_cons (pv 1) pa_nil))))
      (pss_one (ps_ret (pe_ifExp (pt_cmpR o_eqB (pe_cmpR op_lt (pv 0) pe_int (nomark _)) (pe_cmpR op_lt (pv 1) pe_int (nomark _)) (nomark _)) (pv 2) (pe_un un_neg (pv 2)))))), ?_⟩
    have hp : 1 ≤ 10 ^ k := Nat.one_le_pow _ _ (by decide)
    have hb : 10 ^ k ≤ 100000 := Nat.le_trans (Nat.pow_le_pow_right (by decide) hk) (by decide)
    generalize 10 ^ k = m at hp hb q
    have e1 : (if ((m : Nat) : Int) < 0 then -((m : Nat) : Int) else ((m : Nat) : Int)) = (m : Int) := if_neg (by omega)
    refine ⟨_, rfl, _, rfl, _, rfl, _, rfl, _, _, rfl, rfl, ?_⟩
    rw [e1]
    have hm : (m : Int) ≠ 0 := by omega
    refine ⟨⟨by omega, by omega⟩, ?_⟩
    refine ⟨_, rfl, _, _, rfl, rfl, _, rfl, _, _, rfl, rfl, _, _, rfl, rfl, _, rfl, ?_⟩
    have e2 : decide (((m : Nat) : Int) < 0) = false := decide_eq_false (by omega)
    by_cases hu : u < 0
    · have h1 : u * (m : Int) < 0 := Int.mul_neg_of_neg_of_pos hu (by omega)
      refine iteN (by rw [e2, decide_eq_true h1]; rfl) ⟨_, rfl, _, rfl, ?_⟩
      have e3 : -(u * (m : Int)) / (m : Int) = -u := by rw [← Int.neg_mul]; exact Int.mul_ediv_cancel _ hm
      show Q (V.int (-((if u * (m : Int) < 0 then -(u * (m : Int)) else u * (m : Int)) / (m : Int)))) H
      rw [if_pos h1, e3, Int.neg_neg]
      exact q
    · have h1 : ¬ u * (m : Int) < 0 := by
        have := Int.mul_nonneg (show 0 ≤ u by omega) (show (0 : Int) ≤ m by omega)
        omega
      refine iteE (by rw [e2, decide_eq_false h1]; rfl) ⟨_, rfl, ?_⟩
      show Q (V.int ((if u * (m : Int) < 0 then -(u * (m : Int)) else u * (m : Int)) / (m : Int))) H
      rw [if_neg h1, Int.mul_ediv_cancel _ hm]
      exact q
abbrev s_cut : Stmt := top 9
theorem sc_cut : FnScope ["amount", "places"] ["amount", "places"] (defScope s_cut) := ⟨rfl, rfl, rfl, by decide +kernel, rfl, by decide +kernel, by decide +kernel⟩
theorem ok_cut {P : Program} {w : World} {K : PySem.W.Frag} {mg : Str → Option Value} {base : Heap} {f C : Addr} {fd : FuncData} (F : Fun K "cut" "cut" s_cut f fd) (T : Txt K mg C) (C_cut_short : Cal P w K mg base "cut_short" 1 ["top", "bottom"] spCutShort) (C_ten_to : Cal P w K mg base "ten_to" 1 ["places"] spTen) :
    FnOk P w K mg base CX0 2 f fd ["amount", "places"] (spCut K) := by
  obtain ⟨f_cut_short, fd_cut_short, G_cut_short, m_cut_short, k_cut_short, b_cut_short⟩ := C_cut_short.ex
  obtain ⟨f_ten_to, fd_ten_to, G_ten_to, m_ten_to, k_ten_to, b_ten_to⟩ := C_ten_to.ex
  refine F.ok sc_cut (fun vs H Q E h => ?_) (fun cdv A outer s H vs Q E hr h => ?_)
  · obtain ⟨a, u, k, rfl, hS, hk, q⟩ := h
    rfl
  · obtain ⟨a, u, k, rfl, hS, hk, q⟩ := h
    refine ⟨_, (pss_one (ps_ret (pe_tup (pa_cons (pe_call G_cut_short (hr.mono (by decide)) (by rfl) m_cut_short k_cut_short b_cut_short .nil pass0 (pa_cons (pe_op op_mul (pe_ix ix_tup (pv 0) pe_int (fun _ _ => rfl)) (pe_call G_ten_to (hr.mono (by decide)) (by rfl) m_ten_to k_ten_to b_ten_to .nil pass0 (pa_cons (pv 1) pa_nil))) (pa_cons (pe_call G_ten_to (hr.mono (by decide)) (by rfl) m_ten_to k_ten_to b_ten_to .nil pass0 (pa_cons (pe_ix ix_tup (pv 0) pe_int (fun _ _ => rfl)) pa_nil)) pa_nil))) (pa_cons (pv 1) pa_nil))))), ?_⟩
    have hb : 10 ^ k ≤ 100000 := Nat.le_trans (Nat.pow_le_pow_right (by decide) hk) (by decide)
    have hb2 : ((10 ^ k : Nat) : Int) ≤ 100000 := Int.ofNat_le.mpr hb
    have hb0 : (0 : Int) ≤ ((10 ^ k : Nat) : Int) := Int.natCast_nonneg _
    refine ⟨_, rfl, a, _, 0, _, rfl, rfl, hS, rfl, ?_⟩
    refine ⟨_, rfl, k, rfl, by omega, ?_⟩
    refine ⟨_, _, rfl, rfl, Or.inr ⟨Int.lt_of_lt_of_le (by decide) hb0, Int.lt_of_le_of_lt hb2 (by decide)⟩, ?_⟩
    refine ⟨_, rfl, a, _, 1, _, rfl, rfl, hS, rfl, ?_⟩
    refine ⟨k, rfl, by omega, ?_⟩
    refine ⟨u, k, rfl, hk, ?_⟩
    refine ⟨_, rfl, by show 2 ≤ sizeLine; decide, fun p hp => ?_⟩
    exact q p _ (sm_new (Same.refl _) hp) upd_same
abbrev s_init__ : Stmt := inClass (top 15) 0
theorem sc_init__ : FnScope ["self", "lead", "whole", "broken", "tail", "first"] ["self", "lead", "whole", "broken", "tail", "first"] (defScope s_init__) := ⟨rfl, rfl, rfl, by decide +kernel, rfl, by decide +kernel, by decide +kernel⟩
theorem ok_init__ {P : Program} {w : World} {K : PySem.W.Frag} {mg : Str → Option Value} {base : Heap} {f C : Addr} {fd : FuncData} (F : FunD K "__init__" "Shape.__init__" (defArgs s_init__) (defBody s_init__) (defScope s_init__) [] [] f fd) (T : Txt K mg C) :
    FnOk P w K mg base CX0 1 f fd ["self", "lead", "whole", "broken", "tail", "first"] (spInit C) := by
  refine F.ok sc_init__ (fun vs H Q E h => ?_) (fun cdv A outer s H vs Q E hr h => ?_)
  · obtain ⟨x, dx, p, rfl, hx, k⟩ := h
    rfl
  · obtain ⟨x, dx, p, rfl, hx, k⟩ := h
    refine ⟨_, (pss_cons (ps_fld (pv 0) (pv 1) rfl)
      (pss_cons (ps_fld (pv 0) (pv 2) rfl)
      (pss_cons (ps_fld (pv 0) (pv 3) rfl)
      (pss_cons (ps_fld (pv 0) (pv 4) rfl)
      (pss_one (ps_fld (pv 0) (pv 5) rfl)))))), ?_⟩
    have l0 : ∀ (f : Str) (v : V) (fs : List (Str × V)) (n : Nat), fs.length < n → (putF f v fs).length < n + 1 := fun f v fs n h => Nat.lt_of_le_of_lt (length_putF f v fs) (by omega)
    have m : ∀ n, n < 10 → ∀ fs : List (Str × V), fs.length < n → fs.length < 1000 := fun n h fs h2 => by omega
    refine ⟨_, rfl, _, rfl, x, C, dx, _, rfl, hx, T.cl, T.nL, by decide, ?_⟩
    refine ⟨_, rfl, _, rfl, x, C, dx, _, rfl, upd_same, T.cl, T.nW, m 2 (by decide) _ (l0 _ _ _ 1 (by decide)), ?_⟩
    refine ⟨_, rfl, _, rfl, x, C, dx, _, rfl, upd_same, T.cl, T.nB, m 3 (by decide) _ (l0 _ _ _ 2 (l0 _ _ _ 1 (by decide))), ?_⟩
    refine ⟨_, rfl, _, rfl, x, C, dx, _, rfl, upd_same, T.cl, T.nT, m 4 (by decide) _ (l0 _ _ _ 3 (l0 _ _ _ 2 (l0 _ _ _ 1 (by decide)))), ?_⟩
    refine ⟨_, rfl, _, rfl, x, C, dx, _, rfl, upd_same, T.cl, T.nF, m 5 (by decide) _ (l0 _ _ _ 4 (l0 _ _ _ 3 (l0 _ _ _ 2 (l0 _ _ _ 1 (by decide))))), ?_⟩
    rw [upd_upd, upd_upd, upd_upd, upd_upd]
    exact k
abbrev s_floats : Stmt := inClass (top 15) 1
theorem sc_floats : FnScope ["self"] ["self"] (defScope s_floats) := ⟨rfl, rfl, rfl, by decide +kernel, rfl, by decide +kernel, by decide +kernel⟩
theorem ok_floats {P : Program} {w : World} {K : PySem.W.Frag} {mg : Str → Option Value} {base : Heap} {f C : Addr} {fd : FuncData} (F : Fun K "floats" "Shape.floats" s_floats f fd) (T : Txt K mg C) :
    FnOk P w K mg base CX0 1 f fd ["self"] (spFloats C) := by
  refine F.ok sc_floats (fun vs H Q E h => ?_) (fun cdv A outer s H vs Q E hr h => ?_)
  · obtain ⟨a, p, rfl, ⟨dx, ha⟩, k⟩ := h
    rfl
  · obtain ⟨a, p, rfl, ⟨dx, ha⟩, k⟩ := h
    refine ⟨_, (pss_one (ps_ret (pe_cmpR o_inC (pe_fld (pv 0) rfl) (pe_con' (by rfl) T.FLOATS) (by rfl)))), ?_⟩
    exact ⟨_, rfl, a, C, dx, _, _, rfl, ha, T.cl, T.nF, sh_first p, p.first, FLT, rfl, rfl, k⟩
abbrev s_marks : Stmt := inClass (top 15) 2
theorem sc_marks : FnScope ["self", "sign"] ["self"] (defScope s_marks) := ⟨rfl, rfl, rfl, by decide +kernel, rfl, by decide +kernel, by decide +kernel⟩
theorem ok_marks {P : Program} {w : World} {K : PySem.W.Frag} {mg : Str → Option Value} {base : Heap} {f C : Addr} {fd : FuncData} (F : Fun K "marks" "Shape.marks" s_marks f fd) (T : Txt K mg C) :
    FnOk P w K mg base CX0 1 f fd ["self"] (spMarks C) := by
  refine F.ok sc_marks (fun vs H Q E h => ?_) (fun cdv A outer s H vs Q E hr h => ?_)
  · obtain ⟨a, p, rfl, ⟨dx, ha⟩, hl, k⟩ := h
    rfl
  · obtain ⟨a, p, rfl, ⟨dx, ha⟩, hl, k⟩ := h
    refine ⟨_, (pss_cons (ps_for PassesOwn.never rfl (pi_str (pe_txt (l := [43, 45]) (by decide +kernel))) (pg_name (i := 1) sc_marks.nd rfl (Or.inl rfl)) (pss_one (ps_if (PW.pt (pw_or (pt_cmpR o_inC (pv 1) (pe_fld (pv 0) rfl) (by rfl)) (pw_or (pt_cmpR o_eqS (pv 1) (pe_fld (pv 0) rfl) (nomark _)) (pw_or1 (pt_cmpR o_eqS (pv 1) (pe_fld (pv 0) rfl) (nomark _)))))) (pss_one (ps_ret (pv 1))) pss_nil)))
      (pss_one (ps_ret (pe_ifExp (pt_truth (pe_fld (pv 0) rfl) (by intro _; rfl)) (pe_fld (pv 0) rfl) pe_non)))), ?_⟩
    have key : ∀ c : Nat, (43 = c ∨ 45 = c) → (c ∈ p.lead ∨ c = p.first ∨ [c] = p.tail) → Q (c1 c) H := fun c hc h => by
      refine k _ ?_
      have hs : shows p = true := by
        unfold shows
        refine decide_eq_true ?_
        rcases hc with rfl | rfl <;> rcases h with h | h | h
        · exact .inl h
        · exact .inr (.inr (.inl h.symm))
        · exact .inr (.inr (.inr (.inr (by rw [← h]; simp))))
        · exact .inr (.inl h)
        · exact .inr (.inr (.inr (.inl h.symm)))
        · exact .inr (.inr (.inr (.inr (by rw [← h]; simp))))
      rw [hs]
      rfl
    refine ⟨_, rfl, for_str (l := [43, 45]) (fun i σ H' => H' = H ∧ ∃ v : Option V, σ = [some (.ref a), v] ∧ ∀ j c, j < i → ([43, 45] : List Nat)[j]? = some c → ¬ (c ∈ p.lead ∨ c = p.first ∨ [c] = p.tail)) ⟨rfl, none, rfl, fun j c h => by omega⟩ ?_ ?_⟩
    · rintro i c σ H' hc ⟨rfl, v, rfl, hn⟩
      have hc2 : 43 = c ∨ 45 = c := by
        match i, hc with
        | 0, hc => left; simpa using hc
        | 1, hc => right; simpa using hc
        | i + 2, hc => simp at hc
      have fin : ¬ (c ∈ p.lead ∨ c = p.first ∨ [c] = p.tail) → (∀ j d, j < i + 1 → ([43, 45] : List Nat)[j]? = some d → ¬ (d ∈ p.lead ∨ d = p.first ∨ [d] = p.tail)) := fun hq j d hj hd => by
        by_cases h : j < i
        · exact hn j d h hd
        · have : j = i := by omega
          subst this
          rw [hc] at hd
          cases hd
          exact hq
      refine ⟨_, rfl, _, rfl, a, C, dx, _, _, rfl, ha, T.cl, T.nL, sh_lead p, c, p.lead, rfl, rfl, _, rfl, ?_⟩
      refine iteC (fun h => ?_) (fun h => ?_)
      · exact iteE rfl ⟨_, rfl, key c hc2 (.inl (of_decide_eq_true h))⟩
      refine ⟨_, rfl, _, rfl, a, C, dx, _, _, rfl, ha, T.cl, T.nF, sh_first p, [c], [p.first], rfl, rfl, _, rfl, ?_⟩
      refine iteC (fun h2 => ?_) (fun h2 => ?_)
      · exact iteE rfl ⟨_, rfl, key c hc2 (.inr (.inl (by have := of_decide_eq_true h2; simpa using this)))⟩
      refine ⟨_, rfl, _, rfl, a, C, dx, _, _, rfl, ha, T.cl, T.nT, sh_tail p, [c], p.tail, rfl, rfl, _, rfl, ?_⟩
      refine iteC (fun h3 => ?_) (fun h3 => ?_)
      · exact ⟨_, rfl, key c hc2 (.inr (.inr (of_decide_eq_true h3)))⟩
      · refine ⟨rfl, some (c1 c), rfl, fin ?_⟩
        rintro (q | q | q)
        · exact of_decide_eq_false h q
        · exact of_decide_eq_false h2 (by rw [q])
        · exact of_decide_eq_false h3 q
    · rintro σ H' ⟨rfl, v, rfl, hn⟩
      have n43 := hn 0 43 (by decide) rfl
      have n45 := hn 1 45 (by decide) rfl
      refine ⟨_, rfl, a, C, dx, _, _, rfl, ha, T.cl, T.nT, sh_tail p, _, ⟨by rw [S_len]; exact le_line (by omega), rfl⟩, ?_⟩
      have hs : shows p = decide (p.tail ≠ []) := by
        unfold shows
        by_cases ht : p.tail = []
        · rw [show decide (p.tail ≠ []) = false from decide_eq_false (fun z => z ht)]
          refine decide_eq_false ?_
          rintro (q | q | q | q | q)
          · exact n43 (.inl q)
          · exact n45 (.inl q)
          · exact n43 (.inr (.inl q.symm))
          · exact n45 (.inr (.inl q.symm))
          · exact q ht
        · rw [show decide (p.tail ≠ []) = true from decide_eq_true ht]
          exact decide_eq_true (.inr (.inr (.inr (.inr ht))))
      refine iteC (fun h => ?_) (fun h => ?_)
      · refine ⟨_, rfl, a, C, dx, _, _, rfl, ha, T.cl, T.nT, sh_tail p, k _ ?_⟩
        rw [hs]
        have ht : p.tail ≠ [] := fun z => by rw [z] at h; exact absurd h (by decide)
        rw [show decide (p.tail ≠ []) = true from decide_eq_true ht]
        rfl
      · refine k _ ?_
        rw [hs]
        have ht : p.tail = [] := by
          rw [S_len] at h
          have : (p.tail.length : Int) = 0 := by simpa using h
          exact List.eq_nil_of_length_eq_zero (by omega)
        rw [show decide (p.tail ≠ []) = false from decide_eq_false (fun z => z ht)]
        rfl
abbrev s_before : Stmt := inClass (top 15) 3
theorem sc_before : FnScope ["self", "places", "symbol"] ["self"] (defScope s_before) := ⟨rfl, rfl, rfl, by decide +kernel, rfl, by decide +kernel, by decide +kernel⟩
theorem ok_before {P : Program} {w : World} {K : PySem.W.Frag} {mg : Str → Option Value} {base : Heap} {f C : Addr} {fd : FuncData} (F : Fun K "before" "Shape.before" s_before f fd) (T : Txt K mg C) (C_floats : CalM P w K mg base C "floats" 1 ["self"] (spFloats C)) :
    FnOk P w K mg base CX0 2 f fd ["self"] (spBefore C) := by
  obtain ⟨f_floats, fd_floats, G_floats, m_floats, b_floats⟩ := C_floats.ex
  refine F.ok sc_before (fun vs H Q E h => ?_) (fun cdv A outer s H vs Q E hr h => ?_)
  · obtain ⟨a, p, rfl, ⟨dx, ha⟩, hP, hl, k⟩ := h
    rfl
  · obtain ⟨a, p, rfl, ⟨dx, ha⟩, hP, hl, k⟩ := h
    refine ⟨_, (pss_cons (ps_setLc (i := 1) (own := [("symbol", 2)]) rfl sc_before.nd rfl rfl (sw_true rfl rfl rfl (by decide +kernel)) (pi_str (pe_fld (pv 0) rfl)) (blkOk_by (N := ["self", "places", "symbol"]) (sc := defScope s_before) (by decide +kernel)) (fun _ _ _ _ _ => (pg_name (i := 2) sc_before.nd rfl (Or.inl rfl))) (fun _ _ _ _ _ => pts_one (pt_cmpR o_ninC (pv 2) (pe_con' (by rfl) T.INSERTED) (by rfl))) (fun _ _ _ _ _ => (pv 2)))
      (pss_one (ps_ret (pe_op op_sub (pe_callB call_len_seq (by rfl) T.len (by decide +kernel) (pa_cons (pv 1) pa_nil)) (pe_callTy call_int1 (by rfl) T.int (by decide +kernel) (pa_cons (pe_meth0 (pv 0) T.cl m_floats G_floats (hr.mono (by decide)) b_floats .nil pass0) pa_nil)))))), ?_⟩
    refine ⟨_, rfl, a, C, dx, _, _, rfl, ha, T.cl, T.nW, sh_whole p, _, rfl, fun D hD => ?_⟩
    refine lc_str (l := p.whole) (fun i H' => ∃ ys : List Nat, H' D = some (.lst (ys.map c1)) ∧ ys = plc (p.whole.take i) ∧ Same H H') ⟨[], upd_same, rfl, sm_new (Same.refl _) hD⟩ ?_ ?_
    · rintro i c H' hc ⟨ys, h1, rfl, s⟩
      have hi : i < p.whole.length := (List.getElem?_eq_some_iff.mp hc).1
      have ht : p.whole.take (i + 1) = p.whole.take i ++ [c] := by rw [List.take_add_one, hc]; rfl
      refine ⟨rfl, _, rfl, c, INS, rfl, rfl, _, rfl, ?_⟩
      refine iteC (fun h => ?_) (fun h => ?_)
      · refine ⟨_, rfl, _, h1, ?_, plc (p.whole.take i) ++ [c], ?_, ?_, sm_mut s hD⟩
        · rw [List.length_map]
          have : (plc (p.whole.take i)).length ≤ (p.whole.take i).length := List.length_filter_le _ _
          rw [List.length_take] at this
          exact Nat.lt_of_le_of_lt (show _ ≤ 1000 by omega) (by decide)
        · rw [upd_same, List.map_append]; rfl
        · rw [ht]
          unfold plc
          rw [List.filter_append]
          congr 1
          rw [List.filter_cons, if_pos h]
          rfl
      · refine ⟨_, h1, ?_, s⟩
        rw [ht]
        unfold plc
        rw [List.filter_append, List.filter_cons, if_neg (by rw [h]; simp)]
        simp
    · rintro H' ⟨ys, h1, rfl, s⟩
      rw [List.take_of_length_le (Nat.le_refl _)] at h1
      refine ⟨_, rfl, D, _, rfl, .inl (SqL.of h1), ?_⟩
      refine ⟨_, rfl, a, dx, _, rfl, s _ _ ha, sh_floats p, a, p, rfl, ⟨dx, s _ _ ha⟩, ?_⟩
      refine .inr ⟨_, rfl, ?_⟩
      refine ⟨_, _, rfl, rfl, ?_⟩
      have hk := k H' s
      obtain ⟨x, y, e, h1, h2, _⟩ := hP
      unfold bef at hk
      rw [List.length_map]
      by_cases hf : p.first ∈ FLT
      · rw [decide_eq_true hf]
        rw [if_pos hf] at hk
        have hl2 : 1 ≤ (plc p.whole).length := by rw [e, List.length_append, List.length_replicate]; omega
        rw [if_pos rfl]
        rw [Int.natCast_sub hl2] at hk
        exact hk
      · rw [decide_eq_false hf]
        rw [if_neg hf] at hk
        rw [if_neg (by decide)]
        simpa using hk
abbrev s_is_suppressed : Stmt := inClass (top 15) 4
theorem sc_is_suppressed : FnScope ["self"] ["self"] (defScope s_is_suppressed) := ⟨rfl, rfl, rfl, by decide +kernel, rfl, by decide +kernel, by decide +kernel⟩
theorem ok_is_suppressed {P : Program} {w : World} {K : PySem.W.Frag} {mg : Str → Option Value} {base : Heap} {f C : Addr} {fd : FuncData} (F : Fun K "is_suppressed" "Shape.is_suppressed" s_is_suppressed f fd) (T : Txt K mg C) :
    FnOk P w K mg base CX0 1 f fd ["self"] (spSupp C) := by
  refine F.ok sc_is_suppressed (fun vs H Q E h => ?_) (fun cdv A outer s H vs Q E hr h => ?_)
  · obtain ⟨a, p, rfl, ⟨dx, ha⟩, hl, k⟩ := h
    rfl
  · obtain ⟨a, p, rfl, ⟨dx, ha⟩, hl, k⟩ := h
    refine ⟨_, (pss_one (ps_ret (pe_cmpR o_ninC (pe_txt (l := [57]) (by decide +kernel)) (pe_op o_addS (pe_fld (pv 0) rfl) (pe_fld (pv 0) rfl)) (by rfl)))), ?_⟩
    refine ⟨_, rfl, a, C, dx, _, _, rfl, ha, T.cl, T.nW, sh_whole p, _, rfl, a, C, dx, _, _, rfl, ha, T.cl, T.nB, sh_broken p, _, _, rfl, rfl, by omega, ?_⟩
    exact ⟨57, _, rfl, rfl, k⟩
abbrev s_counted : Stmt := top 16
theorem sc_counted : FnScope ["text", "found", "at", "symbol", "many", "end", "word", "sign"] ["text"] (defScope s_counted) := ⟨rfl, rfl, rfl, by decide +kernel, rfl, by decide +kernel, by decide +kernel⟩
def WCt (H : Hp) (l : BX.T) (fa : Addr) (i : Nat) (σ : L2.St) (H' : Hp) : Prop := ∃ (as : List Addr) (y n : Option V), i ≤ l.length ∧ σ = [some (tS l), some (.ref fa), some (.int i), y, n, none, none, none] ∧ Same H H' ∧ H' fa = some (.lst (as.map V.ref)) ∧ Cnt H' (l.take i) as
theorem ok_counted {P : Program} {w : World} {K : PySem.W.Frag} {mg : Str → Option Value} {base : Heap} {f C : Addr} {fd : FuncData} (F : Fun K "counted" "counted" s_counted f fd) (T : Txt K mg C) :
    FnOk P w K mg base CX0 1 f fd ["text"] spCounted := by
  refine F.ok sc_counted (fun vs H Q E h => ?_) (fun cdv A outer s H vs Q E hr h => ?_)
  · obtain ⟨l, rfl, h40, hl, k⟩ := h
    rfl
  · obtain ⟨l, rfl, h40, hl, k⟩ := h
    refine ⟨_, (pss_cons (ps_par (i := 1) (j := 2) rfl sc_counted.nd rfl rfl (by decide) rfl rfl (pa_cons (pe_lst pa_nil) (pa_cons pe_int pa_nil)) (by rfl))
      (pss_cons (ps_while PassesOwn.never (pt_cmpR op_lt (pv 2) (pe_callB len_S (by rfl) T.len (by decide +kernel) (pa_cons (pv 0) pa_nil)) (nomark _)) (pss_cons (ps_par (i := 3) (j := 4) rfl sc_counted.nd rfl rfl (by decide) rfl rfl (pa_cons (pe_ix ix_C (pv 0) (pv 2) (fun _ _ => rfl)) (pa_cons pe_int pa_nil)) (by rfl))
      (pss_cons (ps_aug (i := 2) sc_counted.nd rfl (Or.inl rfl) pe_int ip_add)
      (pss_cons (ps_if (pt_cmpR o_eqS (pe_slice sl_S (pv 0) (po_some (pv 2)) (po_some (pe_op op_add (pv 2) pe_int))) (pe_txt (l := [40]) (by decide +kernel)) (nomark _)) pss_never pss_nil)
      (pss_one (ps_expr (pe_bm PySem.F.plainAttrs_list PySem.F.slot_list_append PySem.F.type_list_append mt_append (pv 1) (pa_cons (pe_tup (pa_cons (pv 3) (pa_cons (pv 4) pa_nil))) pa_nil))))))))
      (pss_one (ps_ret (pv 1))))), ?_⟩
    refine ⟨Nat.zero_le _, fun fa hf => ⟨_, _, rfl, ?_⟩⟩
    refine ⟨fun m σ H' => ∃ i, m = l.length - i ∧ WCt H l fa i σ H', ⟨l.length, 0, rfl, [], none, none, Nat.zero_le _, rfl, sm_new (Same.refl _) hf, upd_same, rfl, fun i c b h => by simp at h⟩, ?_⟩
    rintro m σ H' ⟨i, rfl, as, y, n, hi, rfl, s, h1, hc⟩
    refine ⟨_, rfl, _, rfl, l, rfl, by omega, _, _, rfl, rfl, _, rfl, ?_⟩
    refine iteC (fun h => ?_) (fun h => ?_)
    · have hlt : i < l.length := by have := of_decide_eq_true h; omega
      have hg : l[i]? = some l[i] := List.getElem?_eq_getElem hlt
      generalize l[i] = c at hg
      refine ⟨WCt H l fa (i + 1), fun σ' H2 w => ⟨l.length - (i + 1), by omega, i + 1, rfl, w⟩, ?_⟩
      refine ⟨_, rfl, _, rfl, l, i, c, rfl, rfl, by omega, hg, _, _, rfl, ?_⟩
      refine ⟨_, rfl, _, _, rfl, rfl, ?_⟩
      refine ⟨_, rfl, _, rfl, _, rfl, _, rfl, _, _, rfl, rfl, _, rfl, l, rfl, by omega, _, _, rfl, rfl, _, rfl, ?_⟩
      refine iteN ?_ ?_
      · show decide (cutL l (some (((i + 1 : Nat) : Nat) : Int)) (some (((i + 1 + 1 : Nat) : Nat) : Int)) = [40]) = false
        rw [cutL_mid]
        refine decide_eq_false fun e => h40 ?_
        have : 40 ∈ (l.drop (i + 1)).take (i + 1 + 1 - (i + 1)) := by rw [e]; exact List.mem_singleton.mpr rfl
        exact List.mem_of_mem_drop (List.mem_of_mem_take this)
      · refine ⟨_, rfl, .inl ⟨rfl, _, SqL.of h1⟩, _, rfl, _, rfl, by show 2 ≤ sizeLine; decide, fun t ht => ?_⟩
        have nft : fa ≠ t := ne_of_none h1 ht
        have hf0 : H fa = none := hf
        refine ⟨fa, _, _, rfl, rfl, (upd_ne nft).trans h1, ?_, ?_⟩
        · rw [List.length_map, hc.1, List.length_take]
          exact Nat.lt_of_le_of_lt (show _ ≤ 1000 by omega) (by decide)
        · refine ⟨as ++ [t], _, _, by omega, rfl, sm_mut (sm_new s ht) hf0, ?_, ?_, ?_⟩
          · rw [upd_same, List.map_append]; rfl
          · rw [List.length_append, hc.1, List.length_take, List.length_take, List.length_singleton]; omega
          · intro j d b hj hb
            by_cases hji : j < i
            · have hj2 : (l.take i)[j]? = some d := by
                rw [List.getElem?_take_of_lt hji]
                rw [List.getElem?_take_of_lt (by omega)] at hj
                exact hj
              have hb2 : as[j]? = some b := by
                rw [List.getElem?_append_left (by rw [hc.1, List.length_take]; omega)] at hb
                exact hb
              have e1 := hc.2 j d b hj2 hb2
              have n1 : b ≠ fa := fun z => by rw [z, h1] at e1; cases e1
              have n2 : b ≠ t := ne_of_none e1 ht
              rw [upd_ne n1, upd_ne n2]
              exact e1
            · have hji2 : j = i := by
                have := (List.getElem?_eq_some_iff.mp hj).1
                rw [List.length_take] at this
                omega
              subst hji2
              rw [List.getElem?_take_of_lt (by omega), hg] at hj
              cases hj
              have e3 : as.length = j := by rw [hc.1, List.length_take]; omega
              rw [List.getElem?_append_right (by omega), e3, Nat.sub_self] at hb
              have : t = b := by simpa using hb
              subst this
              rw [upd_ne nft.symm, upd_same]
    · have hle : i = l.length := by have := of_decide_eq_false h; omega
      rw [hle, List.take_of_length_le (Nat.le_refl _)] at hc
      exact ⟨_, rfl, k fa as H' s h1 hc⟩
abbrev s_written_out : Stmt := top 17
theorem sc_written_out : FnScope ["text", "some", "symbol", "many"] ["text"] (defScope s_written_out) := ⟨rfl, rfl, rfl, by decide +kernel, rfl, by decide +kernel, by decide +kernel⟩
theorem ok_written_out {P : Program} {w : World} {K : PySem.W.Frag} {mg : Str → Option Value} {base : Heap} {f C : Addr} {fd : FuncData} (F : Fun K "written_out" "written_out" s_written_out f fd) (T : Txt K mg C) (C_counted : Cal P w K mg base "counted" 1 ["text"] spCounted) :
    FnOk P w K mg base CX0 2 f fd ["text"] spWritten := by
  obtain ⟨f_counted, fd_counted, G_counted, m_counted, k_counted, b_counted⟩ := C_counted.ex
  refine F.ok sc_written_out (fun vs H Q E h => ?_) (fun cdv A outer s H vs Q E hr h => ?_)
  · obtain ⟨l, rfl, h40, hl, k⟩ := h
    rfl
  · obtain ⟨l, rfl, h40, hl, k⟩ := h
    refine ⟨_, (pss_cons (ps_set (i := 1) sc_written_out.nd rfl (Or.inl rfl) (pe_call G_counted (hr.mono (by decide)) (by rfl) m_counted k_counted b_counted .nil pass0 (pa_cons (pv 0) pa_nil)))
      (pss_one (ps_ret (pe_ifExp (pt_cmpR op_isN (pv 1) pe_non (nomark _)) pe_non (pe_m1 PySem.F.slot_str_join PySem.F.type_str_join m_join (pe_txt (l := []) (by decide +kernel)) (pe_lc (own := [("symbol", 2), ("many", 3)]) (g := gTup K 2 (gCons (gName 2) (gCons (gName 3) gNil))) rfl sc_written_out.nd (pi_list (pv 1)) (blkOk_by (N := ["text", "some", "symbol", "many"]) (sc := defScope s_written_out) (by decide +kernel)) (fun _ _ _ _ _ => (pg_tup rfl (pgs_cons (pg_name (i := 2) sc_written_out.nd rfl (Or.inl rfl) (hf := Or.inr rfl)) (pgs_cons (pg_name (i := 3) sc_written_out.nd rfl (Or.inl rfl) (hf := Or.inr rfl)) pgs_nil)))) (fun _ _ _ _ _ => pts_nil) (fun _ _ _ _ _ => (pe_op o_mulS (pv 2) (pv 3))))))))), ?_⟩
    refine ⟨_, rfl, l, rfl, h40, hl, fun a as H1 s1 h1 hc => ?_⟩
    refine ⟨_, rfl, rfl, _, rfl, ?_⟩
    refine iteN rfl ⟨⟨_, rfl⟩, _, rfl, a, rfl, ⟨_, SqL.of h1⟩, fun D hD => ?_⟩
    have nD : a ≠ D := ne_of_none h1 hD
    refine lc_list (K := K) (a := a) (xs := as.map V.ref) (fun i H' => H' D = some (.lst (((l.take i).map fun c => [c]).map fun z => V.str (S z))) ∧ Same H1 H') ⟨upd_same, sm_new (Same.refl _) hD⟩ (fun i H' _ h => SqL.of (h.2 _ _ h1)) ?_ ?_
    · rintro i x H' hx ⟨h2, s2⟩
      rw [List.getElem?_map] at hx
      obtain ⟨b, hb, rfl⟩ := Option.map_eq_some_iff.mp hx
      have hi : i < l.length := by rw [← hc.1]; exact (List.getElem?_eq_some_iff.mp hb).1
      have hg : l[i]? = some l[i] := List.getElem?_eq_getElem hi
      generalize l[i] = c at hg
      have e1 := hc.2 i c b hg hb
      refine ⟨b, _, rfl, SqT.of (s2 _ _ e1), rfl, _, _, rfl, _, _, rfl, rfl, rfl, ?_⟩
      refine ⟨_, rfl, _, rfl, [c], 1, rfl, rfl, by show 1 ≤ 100; decide, by decide, ?_⟩
      refine ⟨_, h2, ?_, ?_, sm_mut s2 hD⟩
      · rw [List.length_map, List.length_map, List.length_take]
        exact Nat.lt_of_le_of_lt (show _ ≤ 1000 by omega) (by decide)
      · rw [upd_same]
        have ht : l.take (i + 1) = l.take i ++ [c] := by rw [List.take_add_one, hg]; rfl
        rw [ht, List.map_append, List.map_append]
        rfl
    · rintro H' ⟨h2, s2⟩
      rw [List.length_map, hc.1, List.take_of_length_le (Nat.le_refl _)] at h2
      refine ⟨D, l.map (fun c => [c]), rfl, rfl, SqL.of h2, ?_, ?_⟩
      · rw [← List.flatMap_def, List.flatMap_singleton']; omega
      · rw [← List.flatMap_def, List.flatMap_singleton']
        exact k _ (s1.trans s2)
abbrev s_is_number_form : Stmt := top 18
theorem sc_is_number_form : FnScope ["text", "bare", "whole", "rest", "sign", "part"] ["text"] (defScope s_is_number_form) := ⟨rfl, rfl, rfl, by decide +kernel, rfl, by decide +kernel, by decide +kernel⟩
theorem ok_is_number_form {P : Program} {w : World} {K : PySem.W.Frag} {mg : Str → Option Value} {base : Heap} {f C : Addr} {fd : FuncData} (F : Fun K "is_number_form" "is_number_form" s_is_number_form f fd) (T : Txt K mg C) :
    FnOk P w K mg base CX0 1 f fd ["text"] spIsNum := by
  refine F.ok sc_is_number_form (fun vs H Q E h => ?_) (fun cdv A outer s H vs Q E hr h => ?_)
  · obtain ⟨l, rfl, h83, h86, hl, k⟩ := h
    rfl
  · obtain ⟨l, rfl, h83, h86, hl, k⟩ := h
    refine ⟨_, (pss_cons (ps_set (i := 1) sc_is_number_form.nd rfl (Or.inl rfl) (pe_ifExp (pt_val (pe_m1 PySem.F.slot_str_startswith PySem.F.type_str_startswith m_starts (pv 0) (pe_txt (l := [83]) (by decide +kernel)))) (pe_slice sl_S (pv 0) (po_some pe_int) po_none) (pv 0)))
      (pss_cons (ps_asg (pe_m1 PySem.F.slot_str_split PySem.F.type_str_split m_split (pv 1) (pe_txt (l := [86]) (by decide +kernel))) (pg_star rfl (pg_name (i := 2) sc_is_number_form.nd rfl (Or.inl rfl)) (pg_name (i := 3) sc_is_number_form.nd rfl (Or.inl rfl))))
      (pss_cons (ps_if (PW.pt (pw_or (pt_cmpR op_gt (pe_callB call_len_seq (by rfl) T.len (by decide +kernel) (pa_cons (pv 3) pa_nil)) pe_int (nomark _)) (pw_or (pt_cmpR (op_eqD hr.units) (pv 3) (pe_lst (pa_cons (pe_txt (l := []) (by decide +kernel)) pa_nil)) (nomark _)) (pw_or1 (pt_not (pt_val (pe_callB (cr_all rfl) (by rfl) T.all (by decide +kernel) (pa_cons (pe_lc (own := [("sign", 4)]) rfl sc_is_number_form.nd (pi_str (pe_op o_addS (pv 2) (pe_m1 PySem.F.slot_str_join PySem.F.type_str_join m_join (pe_txt (l := []) (by decide +kernel)) (pv 3)))) (blkOk_by (N := ["text", "bare", "whole", "rest", "sign", "part"]) (sc := defScope s_is_number_form) (by decide +kernel)) (fun _ _ _ _ _ => (pg_name (i := 4) sc_is_number_form.nd rfl (Or.inl rfl))) (fun _ _ _ _ _ => pts_nil) (fun _ _ _ _ _ => (pe_cmpR o_eqS (pv 4) (pe_txt (l := [57]) (by decide +kernel)) (nomark _)))) pa_nil)))))))) (pss_one (ps_ret pe_bl)) pss_nil)
      (pss_one (ps_ret (pe_chain op_le op_le pe_int (pe_op op_add (pe_callB len_S (by rfl) T.len (by decide +kernel) (pa_cons (pv 2) pa_nil)) (pe_callB (cr_sum rfl) (by rfl) T.sum (by decide +kernel) (pa_cons (pe_lc (own := [("part", 5)]) rfl sc_is_number_form.nd (pi_list (pv 3)) (blkOk_by (N := ["text", "bare", "whole", "rest", "sign", "part"]) (sc := defScope s_is_number_form) (by decide +kernel)) (fun _ _ _ _ _ => (pg_name (i := 5) sc_is_number_form.nd rfl (Or.inl rfl))) (fun _ _ _ _ _ => pts_nil) (fun _ _ _ _ _ => (pe_callB len_S (by rfl) T.len (by decide +kernel) (pa_cons (pv 5) pa_nil)))) pa_nil))) (pe_con' (by rfl) T.MOST_FIGURES))))))), ?_⟩
    have eS : decide ([83] <+: l) = false := decide_eq_false fun z => by
      obtain ⟨t, e⟩ := z
      exact h83 (by rw [← e]; exact List.mem_cons_self)
    refine ⟨_, rfl, ⟨_, rfl⟩, l, [83], rfl, rfl, _, rfl, iteN eS ⟨_, rfl, ?_⟩⟩
    have eV : TL.spl [86] 0 [] l = [l] := by rw [TL.spl_last1 h86]; rfl
    refine ⟨_, rfl, ⟨_, rfl⟩, l, 86, rfl, rfl, by decide, by omega, fun p hp => ?_⟩
    refine ⟨p, tS l, [], rfl, SqL.of (by rw [upd_same, eV]; rfl), fun q hq => ?_⟩
    have s1 := sm_new (o := .lst ((TL.spl [86] 0 [] l).map fun z => V.str (S z))) (Same.refl H) hp
    have s2 := s1.trans (sm_new (o := .lst []) (Same.refl _) hq)
    generalize hH2 : upd (upd H p (.lst ((TL.spl [86] 0 [] l).map fun z => V.str (S z)))) q (.lst []) = H2 at s2
    have hq2 : H2 q = some (.lst []) := by rw [← hH2]; exact upd_same
    refine ⟨_, rfl, q, _, rfl, .inl (SqL.of hq2), _, _, rfl, rfl, _, rfl, ?_⟩
    refine iteN (by decide) ⟨_, rfl, by show 1 ≤ sizeLine; decide, fun t ht => ?_⟩
    have s3 := s2.trans (sm_new (o := .lst [tS []]) (Same.refl _) ht)
    have hq3 : (upd H2 t (.lst [tS []])) q = some (.lst []) := (upd_ne (ne_of_none hq2 ht)).trans hq2
    refine ⟨.list [], .list [.str (S [])], .lst (SqL.of hq3) .nil, .lst (SqL.of upd_same) (.cons (.str _) .nil), by decide +kernel, by decide +kernel, _, rfl, ?_⟩
    generalize upd H2 t (.lst [tS []]) = H3 at s3 hq3
    refine iteN rfl ⟨_, rfl, ⟨_, rfl⟩, _, rfl, q, [], rfl, rfl, SqL.of hq3, by decide, l, [], rfl, rfl, ?_, _, rfl, fun D hD => ?_⟩
    · show l.length + 0 ≤ 1000; omega
    rw [List.append_nil]
    refine lc_str (l := l) (fun i H' => H' D = some (.lst (((l.take i).map fun c => decide ([c] = [57])).map V.bl)) ∧ Same H3 H') ⟨upd_same, sm_new (Same.refl _) hD⟩ ?_ ?_
    · rintro i c H' hc ⟨h1, s⟩
      have hi : i < l.length := (List.getElem?_eq_some_iff.mp hc).1
      have ht : l.take (i + 1) = l.take i ++ [c] := by rw [List.take_add_one, hc]; rfl
      refine ⟨rfl, ?_⟩
      refine ⟨_, rfl, _, _, rfl, rfl, _, h1, ?_, ?_, sm_mut s hD⟩
      · rw [List.length_map, List.length_map, List.length_take]
        exact Nat.lt_of_le_of_lt (show _ ≤ 1000 by omega) (by decide)
      · rw [upd_same, ht, List.map_append, List.map_append]
        rfl
    · rintro H4 ⟨h1, s4⟩
      rw [List.take_of_length_le (Nat.le_refl _)] at h1
      refine ⟨D, _, rfl, SqL.of h1, _, rfl, ?_⟩
      have s5 := s3.trans s4
      have eA : ((l.map fun c => decide ([c] = [57])).all id) = decide (∀ c ∈ l, c = 57) := by
        rw [List.all_map]
        by_cases h : ∀ c ∈ l, c = 57
        · rw [decide_eq_true h, List.all_eq_true]
          intro c hc
          exact decide_eq_true (by rw [h c hc])
        · rw [decide_eq_false h]
          refine Bool.eq_false_iff.mpr fun z => h fun c hc => ?_
          have := List.all_eq_true.mp z c hc
          have := of_decide_eq_true this
          simpa using this
      rw [eA]
      refine iteC (fun h => ?_) (fun h => ?_)
      · have := k H4 s5
        unfold isNum at this
        rw [decide_eq_false (ndT h), Bool.false_and] at this
        exact this
      · have hk : ∀ H', Same H H' → Q (.bl (decide (1 ≤ l.length) && decide (l.length ≤ 18))) H' := fun H' s => by
          have := k H' s
          unfold isNum at this
          rw [decide_eq_true (ndF h), Bool.true_and] at this
          exact this
        have hq4 : H4 q = some (.lst []) := s4 _ _ hq3
        refine ⟨_, rfl, l, rfl, by omega, _, rfl, q, rfl, ⟨[], SqL.of hq4⟩, fun D2 hD2 => ?_⟩
        refine lc_list (K := K) (a := q) (xs := []) (fun i H' => H' D2 = some (.lst (([] : List Int).map V.int)) ∧ Same H4 H') ⟨upd_same, sm_new (Same.refl _) hD2⟩ (fun i H' _ z => SqL.of (z.2 _ _ hq4)) (fun i x H' hx => by simp at hx) ?_
        rintro H5 ⟨h5, s6⟩
        refine ⟨D2, [], rfl, SqL.of h5, _, _, rfl, rfl, _, _, rfl, rfl, _, rfl, ?_⟩
        have hk5 := hk H5 (s5.trans s6)
        have e0 : ((l.length : Int) + ([] : List Int).sum) = (l.length : Int) := by simp
        refine iteC (fun h2 => ?_) (fun h2 => ?_)
        · have h2 : decide ((1 : Int) ≤ (l.length : Int) + ([] : List Int).sum) = true := h2
          rw [e0] at h2
          have h2 := of_decide_eq_true h2
          rw [decide_eq_true (show 1 ≤ l.length by omega), Bool.true_and] at hk5
          refine ⟨_, _, rfl, rfl, ?_⟩
          show Q (V.bl (decide ((l.length : Int) + ([] : List Int).sum ≤ 18))) H5
          rw [e0]
          by_cases h3 : l.length ≤ 18
          · rw [decide_eq_true h3] at hk5
            rw [decide_eq_true (show (l.length : Int) ≤ 18 by omega)]
            exact hk5
          · rw [decide_eq_false h3] at hk5
            rw [decide_eq_false (show ¬ (l.length : Int) ≤ 18 by omega)]
            exact hk5
        · have h2 : decide ((1 : Int) ≤ (l.length : Int) + ([] : List Int).sum) = false := h2
          rw [e0] at h2
          have h2 := of_decide_eq_false h2
          rw [decide_eq_false (show ¬ 1 ≤ l.length by omega), Bool.false_and] at hk5
          exact hk5
abbrev s_floating_row : Stmt := top 19
theorem sc_floating_row : FnScope ["text", "first", "end", "at", "symbol"] ["text"] (defScope s_floating_row) := ⟨rfl, rfl, rfl, by decide +kernel, rfl, by decide +kernel, by decide +kernel⟩
def WFr (H : Hp) (l : BX.T) (c : Nat) (i : Nat) (σ : L2.St) (H' : Hp) : Prop := ∃ (y n : Option V) (e : Nat), i ≤ l.length ∧ σ = [some (tS l), some (c1 c), some (.int e), y, n] ∧ Same H H' ∧ frow c i (l.drop i) e = frow c 0 l 0
theorem ok_floating_row {P : Program} {w : World} {K : PySem.W.Frag} {mg : Str → Option Value} {base : Heap} {f C : Addr} {fd : FuncData} (F : Fun K "floating_row" "floating_row" s_floating_row f fd) (T : Txt K mg C) :
    FnOk P w K mg base CX0 1 f fd ["text"] spFloatRow := by
  refine F.ok sc_floating_row (fun vs H Q E h => ?_) (fun cdv A outer s H vs Q E hr h => ?_)
  · obtain ⟨l, rfl, hl, k⟩ := h
    rfl
  · obtain ⟨l, rfl, hl, k⟩ := h
    refine ⟨_, (pss_cons (ps_set (i := 1) sc_floating_row.nd rfl (Or.inl rfl) (pe_slice sl_S (pv 0) po_none (po_some pe_int)))
      (pss_cons (ps_if (PW.pt (pw_or (pt_cmpR o_eqS (pv 1) (pe_txt (l := []) (by decide +kernel)) (nomark _)) (pw_or1 (pt_cmpR o_ninC (pv 1) (pe_con' (by rfl) T.FLOATS) (by rfl))))) (pss_one (ps_ret pe_int)) pss_nil)
      (pss_cons (ps_set (i := 2) sc_floating_row.nd rfl (Or.inl rfl) pe_int)
      (pss_cons (ps_for PassesOwn.never rfl (pi_enumS (by rfl) T.enumerate (pa_cons (pv 0) pa_nil)) (pg_tup rfl (pgs_cons (pg_name (i := 3) sc_floating_row.nd rfl (Or.inl rfl)) (pgs_cons (pg_name (i := 4) sc_floating_row.nd rfl (Or.inl rfl)) pgs_nil))) (pss_one (ps_if (pt_cmpR o_eqS (pv 4) (pv 1) (nomark _)) (pss_one (ps_set (i := 2) sc_floating_row.nd rfl (Or.inl rfl) (pe_op op_add (pv 3) pe_int))) (pss_one (ps_if (pt_cmpR o_ninC (pv 4) (pe_con' (by rfl) T.INSERTED) (by rfl)) (pss_one ps_break) pss_nil)))))
      (pss_one (ps_ret (pe_ifExp (pt_cmpR op_gt (pv 2) pe_int (nomark _)) (pv 2) pe_int))))))), ?_⟩
    refine ⟨_, rfl, _, rfl, l, rfl, by omega, ?_⟩
    cases hL : l with
    | nil =>
      subst hL
      exact ⟨_, rfl, _, _, rfl, rfl, _, rfl, iteE rfl (iteE rfl (k H (Same.refl _)))⟩
    | cons c r =>
      rw [← hL]
      have e1 : cutL l none (some 1) = [c] := by
        have := cutL_take l 1
        rw [hL] at this ⊢
        exact this
      rw [e1]
      refine ⟨_, rfl, _, _, rfl, rfl, _, rfl, ?_⟩
      refine iteN (decide_eq_false (by simp)) ⟨_, rfl, c, FLT, rfl, rfl, _, rfl, ?_⟩
      have eF : floatRow l = if c ∈ FLT then (if 1 < frow c 0 l 0 then frow c 0 l 0 else 0) else 0 := by rw [hL]; rfl
      refine iteC (fun h => ?_) (fun h => ?_)
      · have hc : c ∉ FLT := ndT h
        rw [if_neg hc] at eF
        have := k H (Same.refl _)
        rw [eF] at this
        exact this
      · have hc : c ∈ FLT := ndF h
        rw [if_pos hc] at eF
        have fin : ∀ (y n : Option V) (e : Nat) (H' : Hp), e = frow c 0 l 0 → Same H H' → (tRet (tIf (tTest (tOp (rI0 fun i j => .bl (decide (j < i))) (tVar 2) (tC (.int 1)))) (tVar 2) (tC (.int 0)))) { nx := fun _ H' => Q .non H', rt := Q } [some (tS l), some (c1 c), some (.int e), y, n] H' := fun y n e H' he s => by
          refine ⟨_, rfl, _, _, rfl, rfl, _, rfl, ?_⟩
          have hk := k H' s
          rw [eF, ← he] at hk
          refine iteC (fun h => ?_) (fun h => ?_)
          · rw [if_pos (by have := of_decide_eq_true h; omega)] at hk
            exact ⟨_, rfl, hk⟩
          · rw [if_neg (by have := of_decide_eq_false h; omega)] at hk
            exact hk
        refine ⟨_, rfl, _, rfl, for_enumS (l := l) (WFr H l c) ⟨none, none, 0, Nat.zero_le _, rfl, Same.refl _, rfl⟩ ?_ ?_⟩
        · rintro i d σ H' T' hd ⟨y, n, e, hi, rfl, s, hf⟩ hT
          have hlt : i < l.length := (List.getElem?_eq_some_iff.mp hd).1
          have hdrop : l.drop i = d :: l.drop (i + 1) := by
            rw [List.drop_eq_getElem_cons hlt, (List.getElem?_eq_some_iff.mp hd).2]
          rw [hdrop, frow_cons] at hf
          refine ⟨_, _, rfl, SqT.of upd_same, rfl, _, _, rfl, _, _, rfl, rfl, ?_⟩
          refine ⟨_, rfl, _, rfl, [d], [c], rfl, rfl, _, rfl, ?_⟩
          refine iteC (fun h => ?_) (fun h => ?_)
          · have hdc : d = c := by have := of_decide_eq_true h; simpa using this
            rw [if_pos hdc] at hf
            exact ⟨_, rfl, _, _, rfl, rfl, _, _, i + 1, hlt, rfl, sm_new s hT, hf⟩
          · have hdc : ¬ d = c := fun z => of_decide_eq_false h (by rw [z])
            rw [if_neg hdc] at hf
            refine ⟨_, rfl, d, INS, rfl, rfl, _, rfl, ?_⟩
            refine iteC (fun h2 => ?_) (fun h2 => ?_)
            · have hdi : d ∉ INS := ndT h2
              rw [if_neg hdi] at hf
              exact fin _ _ e _ hf (sm_new s hT)
            · have hdi : d ∈ INS := ndF h2
              rw [if_pos hdi] at hf
              exact ⟨_, _, e, hlt, rfl, sm_new s hT, hf⟩
        · rintro σ H' ⟨y, n, e, hi, rfl, s, hf⟩
          rw [List.drop_eq_nil_of_le (Nat.le_refl _)] at hf
          exact fin y n e H' hf s
abbrev s_lead_of : Stmt := top 20
theorem sc_lead_of : FnScope ["text"] ["text"] (defScope s_lead_of) := ⟨rfl, rfl, rfl, by decide +kernel, rfl, by decide +kernel, by decide +kernel⟩
theorem ok_lead_of {P : Program} {w : World} {K : PySem.W.Frag} {mg : Str → Option Value} {base : Heap} {f C : Addr} {fd : FuncData} (F : Fun K "lead_of" "lead_of" s_lead_of f fd) (T : Txt K mg C) (C_floating_row : Cal P w K mg base "floating_row" 1 ["text"] spFloatRow) :
    FnOk P w K mg base CX0 2 f fd ["text"] spLeadOf := by
  obtain ⟨f_floating_row, fd_floating_row, G_floating_row, m_floating_row, k_floating_row, b_floating_row⟩ := C_floating_row.ex
  refine F.ok sc_lead_of (fun vs H Q E h => ?_) (fun cdv A outer s H vs Q E hr h => ?_)
  · obtain ⟨l, rfl, hl, k⟩ := h
    rfl
  · obtain ⟨l, rfl, hl, k⟩ := h
    refine ⟨_, (pss_cons (ps_if (PW.pt (pw_or (pt_cmpR op_gt (pe_call G_floating_row (hr.mono (by decide)) (by rfl) m_floating_row k_floating_row b_floating_row .nil pass0 (pa_cons (pv 0) pa_nil)) pe_int (nomark _)) (pw_or1 (pt_cmpR op_notIn_seq (pe_slice sl_S (pv 0) po_none (po_some pe_int)) (pe_tup (pa_cons (pe_txt (l := [43]) (by decide +kernel)) (pa_cons (pe_txt (l := [45]) (by decide +kernel)) (pa_cons (pe_txt (l := [36]) (by decide +kernel)) pa_nil)))) (by rfl))))) (pss_one (ps_ret (pe_txt (l := []) (by decide +kernel)))) pss_nil)
      (pss_cons (ps_if (PW.pt (pw_and (pt_cmpR op_in_seq (pe_slice sl_S (pv 0) po_none (po_some pe_int)) (pe_tup (pa_cons (pe_txt (l := [43, 36]) (by decide +kernel)) (pa_cons (pe_txt (l := [45, 36]) (by decide +kernel)) pa_nil))) (by rfl)) (pw_and1 (pt_cmpR o_eqI (pe_call G_floating_row (hr.mono (by decide)) (by rfl) m_floating_row k_floating_row b_floating_row .nil pass0 (pa_cons (pe_slice sl_S (pv 0) (po_some pe_int) po_none) pa_nil)) pe_int (nomark _))))) (pss_one (ps_ret (pe_slice sl_S (pv 0) po_none (po_some pe_int)))) pss_nil)
      (pss_one (ps_ret (pe_slice sl_S (pv 0) po_none (po_some pe_int)))))), ?_⟩
    have e1 : cutL l none (some 1) = l.take 1 := cutL_take l 1
    have e2 : cutL l none (some 2) = l.take 2 := cutL_take l 2
    have e3 : cutL l (some 1) none = l.drop 1 := cutL_drop l 1
    refine ⟨_, rfl, l, rfl, hl, fun H1 s1 => ⟨_, _, rfl, rfl, _, rfl, ?_⟩⟩
    refine iteC (fun h => ?_) (fun h => ?_)
    · have := k H1 s1
      unfold leadOf at this
      rw [if_pos (.inl (by have := of_decide_eq_true h; omega))] at this
      exact this
    have n0 : ¬ 0 < floatRow l := by have := of_decide_eq_false h; omega
    refine ⟨_, rfl, _, rfl, l, rfl, by omega, by show 3 ≤ sizeLine; decide, fun t ht => ?_⟩
    refine ⟨t, _, rfl, .inr (SqT.of upd_same), rfl, rfl, _, rfl, ?_⟩
    have s2 := s1.trans (sm_new (o := .tup [tS [43], tS [45], tS [36]]) (Same.refl H1) ht)
    have eI : inV (tS (l.take 1)) [tS [43], tS [45], tS [36]] = decide (l.take 1 = [43] ∨ l.take 1 = [45] ∨ l.take 1 = [36]) := inV_three _ _ _ _
    refine iteC (fun h => ?_) (fun h => ?_)
    · have h : (!inV (tS (cutL l none (some 1))) [tS [43], tS [45], tS [36]]) = true := h
      rw [e1, eI] at h
      have := k _ s2
      unfold leadOf at this
      rw [if_pos (.inr (ndT h))] at this
      exact this
    have h : (!inV (tS (cutL l none (some 1))) [tS [43], tS [45], tS [36]]) = false := h
    rw [e1, eI] at h
    have n1 := ndF h
    have nn : ¬ (0 < floatRow l ∨ ¬ (l.take 1 = [43] ∨ l.take 1 = [45] ∨ l.take 1 = [36])) := fun z => z.elim n0 fun z => z n1
    have k2 : ∀ H', Same H H' → Q (tS (if (l.take 2 = [43, 36] ∨ l.take 2 = [45, 36]) ∧ floatRow (l.drop 1) = 0 then l.take 2 else l.take 1)) H' := fun H' s => by
      have := k H' s
      unfold leadOf at this
      rw [if_neg nn] at this
      exact this
    have fin : ∀ H' : Hp, Same H H' → ¬ ((l.take 2 = [43, 36] ∨ l.take 2 = [45, 36]) ∧ floatRow (l.drop 1) = 0) → (tRet (tSl rSlL (tVar 0) (fun _ H R => R none H) (tPart (tC (.int 1))))) { nx := fun _ H' => Q .non H', rt := Q } [some (tS l)] H' := fun H' s hn => by
      refine ⟨_, rfl, _, rfl, l, rfl, by omega, ?_⟩
      have := k2 H' s
      rw [if_neg hn] at this
      rw [e1]
      exact this
    refine ⟨_, rfl, _, rfl, l, rfl, by omega, by show 2 ≤ sizeLine; decide, fun t2 ht2 => ?_⟩
    refine ⟨t2, _, rfl, .inr (SqT.of upd_same), rfl, rfl, _, rfl, ?_⟩
    have s3 := s2.trans (sm_new (o := .tup [tS [43, 36], tS [45, 36]]) (Same.refl _) ht2)
    have eJ : inV (tS (l.take 2)) [tS [43, 36], tS [45, 36]] = decide (l.take 2 = [43, 36] ∨ l.take 2 = [45, 36]) := inV_two _ _ _
    refine iteC (fun h => ?_) (fun h => ?_)
    · have h : inV (tS (cutL l none (some 2))) [tS [43, 36], tS [45, 36]] = true := h
      rw [e2, eJ] at h
      refine ⟨_, rfl, _, rfl, l, rfl, by omega, ?_⟩
      rw [e3]
      refine ⟨l.drop 1, rfl, by rw [List.length_drop]; omega, fun H4 s4 => ⟨_, _, rfl, rfl, _, rfl, ?_⟩⟩
      refine iteC (fun h2 => ?_) (fun h2 => ?_)
      · refine ⟨_, rfl, _, rfl, l, rfl, by omega, ?_⟩
        rw [e2]
        have := k2 H4 (s3.trans s4)
        rw [if_pos ⟨of_decide_eq_true h, by have := of_decide_eq_true h2; omega⟩] at this
        exact this
      · exact fin H4 (s3.trans s4) fun z => of_decide_eq_false h2 (by rw [z.2]; rfl)
    · have h : inV (tS (cutL l none (some 2))) [tS [43, 36], tS [45, 36]] = false := h
      rw [e2, eJ] at h
      exact fin _ s3 fun z => of_decide_eq_false h z.1
abbrev s_tail_of : Stmt := top 21
theorem sc_tail_of : FnScope ["text"] ["text"] (defScope s_tail_of) := ⟨rfl, rfl, rfl, by decide +kernel, rfl, by decide +kernel, by decide +kernel⟩
theorem ok_tail_of {P : Program} {w : World} {K : PySem.W.Frag} {mg : Str → Option Value} {base : Heap} {f C : Addr} {fd : FuncData} (F : Fun K "tail_of" "tail_of" s_tail_of f fd) (T : Txt K mg C) :
    FnOk P w K mg base CX0 1 f fd ["text"] spTailOf := by
  refine F.ok sc_tail_of (fun vs H Q E h => ?_) (fun cdv A outer s H vs Q E hr h => ?_)
  · obtain ⟨l, rfl, hl, k⟩ := h
    rfl
  · obtain ⟨l, rfl, hl, k⟩ := h
    refine ⟨_, (pss_cons (ps_if (PW.pt (pw_or (pt_val (pe_m1 PySem.F.slot_str_endswith PySem.F.type_str_endswith m_ends (pv 0) (pe_txt (l := [67, 82]) (by decide +kernel)))) (pw_or1 (pt_val (pe_m1 PySem.F.slot_str_endswith PySem.F.type_str_endswith m_ends (pv 0) (pe_txt (l := [68, 66]) (by decide +kernel))))))) (pss_one (ps_ret (pe_slice sl_S (pv 0) (po_some (pe_un un_neg pe_int)) po_none))) pss_nil)
      (pss_one (ps_ret (pe_ifExp (pt_cmpR op_in_seq (pe_slice sl_S (pv 0) (po_some (pe_un un_neg pe_int)) po_none) (pe_tup (pa_cons (pe_txt (l := [43]) (by decide +kernel)) (pa_cons (pe_txt (l := [45]) (by decide +kernel)) pa_nil))) (by rfl)) (pe_slice sl_S (pv 0) (po_some (pe_un un_neg pe_int)) po_none) (pe_txt (l := []) (by decide +kernel)))))), ?_⟩
    have e2 : cutL l (some (-2)) none = l.drop (l.length - 2) := cutL_back l 2 (by decide)
    have e1 : cutL l (some (-1)) none = l.drop (l.length - 1) := cutL_back l 1 (by decide)
    refine ⟨_, rfl, ⟨_, rfl⟩, l, [67, 82], rfl, rfl, _, rfl, ?_⟩
    have cr : ∀ H', Same H H' → ([67, 82] <:+ l ∨ [68, 66] <:+ l) → Q (tS (l.drop (l.length - 2))) H' := fun H' s h => by
      have := k H' s
      unfold tailOf at this
      rw [if_pos h] at this
      exact this
    refine iteC (fun h => ?_) (fun h => ?_)
    · refine iteE rfl ⟨_, rfl, _, rfl, _, rfl, l, rfl, by omega, ?_⟩
      rw [show cutL l (some (-2)) none = _ from e2]
      exact cr H (Same.refl _) (.inl (of_decide_eq_true h))
    refine ⟨_, rfl, ⟨_, rfl⟩, l, [68, 66], rfl, rfl, _, rfl, ?_⟩
    refine iteC (fun h2 => ?_) (fun h2 => ?_)
    · refine ⟨_, rfl, _, rfl, _, rfl, l, rfl, by omega, ?_⟩
      rw [show cutL l (some (-2)) none = _ from e2]
      exact cr H (Same.refl _) (.inr (of_decide_eq_true h2))
    have hn : ¬ ([67, 82] <:+ l ∨ [68, 66] <:+ l) := fun z => z.elim (of_decide_eq_false h) (of_decide_eq_false h2)
    have k2 : ∀ H', Same H H' → Q (tS (if l.drop (l.length - 1) = [43] ∨ l.drop (l.length - 1) = [45] then l.drop (l.length - 1) else [])) H' := fun H' s => by
      have := k H' s
      unfold tailOf at this
      rw [if_neg hn] at this
      exact this
    refine ⟨_, rfl, _, rfl, _, rfl, l, rfl, by omega, by show 2 ≤ sizeLine; decide, fun t ht => ?_⟩
    have e1' : cutL l (some ((fun i : Int => -i) 1)) none = l.drop (l.length - 1) := e1
    refine ⟨t, _, rfl, .inr (SqT.of upd_same), rfl, rfl, _, rfl, ?_⟩
    have s1 := sm_new (o := .tup [tS [43], tS [45]]) (Same.refl H) ht
    have eI : inV (tS (l.drop (l.length - 1))) [tS [43], tS [45]] = decide (l.drop (l.length - 1) = [43] ∨ l.drop (l.length - 1) = [45]) := inV_two _ _ _
    refine iteC (fun h3 => ?_) (fun h3 => ?_)
    · have h3 : inV (tS (cutL l (some ((fun i : Int => -i) 1)) none)) [tS [43], tS [45]] = true := h3
      rw [e1', eI] at h3
      refine ⟨_, rfl, _, rfl, _, rfl, l, rfl, by omega, ?_⟩
      rw [show cutL l (some (-1)) none = _ from e1]
      have := k2 _ s1
      rw [if_pos (of_decide_eq_true h3)] at this
      exact this
    · have h3 : inV (tS (cutL l (some ((fun i : Int => -i) 1)) none)) [tS [43], tS [45]] = false := h3
      rw [e1', eI] at h3
      have := k2 _ s1
      rw [if_neg (of_decide_eq_false h3)] at this
      exact this
abbrev s_is_whole_part : Stmt := top 22
theorem sc_is_whole_part : FnScope ["whole", "first", "places", "row", "symbol"] ["whole", "first"] (defScope s_is_whole_part) := ⟨rfl, rfl, rfl, by decide +kernel, rfl, by decide +kernel, by decide +kernel⟩
theorem tw_all {q : Nat → Bool} : ∀ (l : List Nat), (∀ c ∈ l, q c = true) → l.takeWhile q = l
  | [], _ => rfl
  | c :: l, h => by rw [List.takeWhile_cons, if_pos (h c List.mem_cons_self), tw_all l fun d m => h d (List.mem_cons_of_mem _ m)]
theorem rstrip_pl {a b f : Nat} (h : f = 57 → b = 0) : rstripL (List.replicate a f ++ List.replicate b 57) [57] = if f = 57 then [] else List.replicate a f := by
  unfold rstripL
  by_cases hf : f = 57
  · rw [if_pos hf, h hf, hf]
    simp only [List.replicate_zero, List.append_nil, List.reverse_replicate, List.length_replicate]
    rw [tw_all _ (fun c m => by rw [(List.mem_replicate.mp m).2]; rfl)]
    rw [List.length_replicate, Nat.sub_self, List.take_zero]
  · rw [if_neg hf, List.reverse_append, List.reverse_replicate, List.reverse_replicate]
    have e : ((List.replicate b 57 ++ List.replicate a f).takeWhile fun c => decide (c ∈ [57])) = List.replicate b 57 := by
      rw [List.takeWhile_append_of_pos (fun c m => by rw [(List.mem_replicate.mp m).2]; rfl)]
      cases a with
      | zero => simp
      | succ a =>
        rw [List.replicate_succ, List.takeWhile_cons, if_neg (by simp [hf]), List.append_nil]
    rw [e, List.length_append, List.length_replicate, List.length_replicate, Nat.add_sub_cancel, List.take_append_of_le_length (by rw [List.length_replicate]; exact Nat.le_refl _)]
    rw [List.take_of_length_le (by rw [List.length_replicate]; exact Nat.le_refl _)]
theorem ok_is_whole_part {P : Program} {w : World} {K : PySem.W.Frag} {mg : Str → Option Value} {base : Heap} {f C : Addr} {fd : FuncData} (F : Fun K "is_whole_part" "is_whole_part" s_is_whole_part f fd) (T : Txt K mg C) :
    FnOk P w K mg base CX0 1 f fd ["whole", "first"] spIsWhole := by
  refine F.ok sc_is_whole_part (fun vs H Q E h => ?_) (fun cdv A outer s H vs Q E hr h => ?_)
  · obtain ⟨w0, f0, rfl, hl, hP, k⟩ := h
    rfl
  · obtain ⟨w0, f0, rfl, hl, hP, k⟩ := h
    refine ⟨_, (pss_cons (ps_set (i := 2) sc_is_whole_part.nd rfl (Or.inl rfl) (pe_m1 PySem.F.slot_str_join PySem.F.type_str_join m_join (pe_txt (l := []) (by decide +kernel)) (pe_lc (own := [("symbol", 4)]) rfl sc_is_whole_part.nd (pi_str (pv 0)) (blkOk_by (N := ["whole", "first", "places", "row", "symbol"]) (sc := defScope s_is_whole_part) (by decide +kernel)) (fun _ _ _ _ _ => (pg_name (i := 4) sc_is_whole_part.nd rfl (Or.inl rfl))) (fun _ _ _ _ _ => pts_one (pt_cmpR o_ninC (pv 4) (pe_con' (by rfl) T.INSERTED) (by rfl))) (fun _ _ _ _ _ => (pv 4)))))
      (pss_cons (ps_set (i := 3) sc_is_whole_part.nd rfl (Or.inl rfl) (pe_m1 PySem.F.slot_str_rstrip PySem.F.type_str_rstrip m_rstrip (pv 2) (pe_txt (l := [57]) (by decide +kernel))))
      (pss_cons (ps_if (pt_cmpR o_eqS (pv 1) (pe_txt (l := [57]) (by decide +kernel)) (nomark _)) (pss_one (ps_ret (pe_cmpR o_eqS (pv 3) (pe_txt (l := []) (by decide +kernel)) (nomark _)))) pss_nil)
      (pss_one (ps_ret (pe_and (pe_cmpR o_eqS (pv 3) (pe_op o_mulS (pv 1) (pe_callB len_S (by rfl) T.len (by decide +kernel) (pa_cons (pv 3) pa_nil))) (nomark _)) (pe_one (pe_cmpR op_ge (pe_callB len_S (by rfl) T.len (by decide +kernel) (pa_cons (pv 3) pa_nil)) (pe_ifExp (pt_cmpR o_inC (pv 1) (pe_con' (by rfl) T.FLOATS) (by rfl)) pe_int pe_int) (nomark _))))))))), ?_⟩
    obtain ⟨a, b, eP, ha, hF, hab, h57⟩ := hP
    refine ⟨⟨_, rfl⟩, _, rfl, _, rfl, fun D hD => ?_⟩
    refine lc_str (l := w0) (fun i H' => H' D = some (.lst (((plc (w0.take i)).map fun c => [c]).map fun z => V.str (S z))) ∧ Same H H') ⟨upd_same, sm_new (Same.refl _) hD⟩ ?_ ?_
    · rintro i c H' hc ⟨h1, s⟩
      have hi : i < w0.length := (List.getElem?_eq_some_iff.mp hc).1
      have ht : w0.take (i + 1) = w0.take i ++ [c] := by rw [List.take_add_one, hc]; rfl
      refine ⟨rfl, _, rfl, c, INS, rfl, rfl, _, rfl, ?_⟩
      refine iteC (fun h => ?_) (fun h => ?_)
      · refine ⟨_, rfl, _, h1, ?_, ?_, sm_mut s hD⟩
        · rw [List.length_map, List.length_map]
          have : (plc (w0.take i)).length ≤ (w0.take i).length := List.length_filter_le _ _
          rw [List.length_take] at this
          exact Nat.lt_of_le_of_lt (show _ ≤ 1000 by omega) (by decide)
        · rw [upd_same, ht]
          have : plc (w0.take i ++ [c]) = plc (w0.take i) ++ [c] := by
            unfold plc
            rw [List.filter_append]
            congr 1
            rw [List.filter_cons, if_pos h]
            rfl
          rw [this, List.map_append, List.map_append]
          rfl
      · refine ⟨?_, s⟩
        rw [ht]
        have : plc (w0.take i ++ [c]) = plc (w0.take i) := by
          unfold plc
          rw [List.filter_append, List.filter_cons, if_neg (by rw [h]; simp)]
          simp
        rw [this]
        exact h1
    · rintro H' ⟨h1, s⟩
      rw [List.take_of_length_le (Nat.le_refl _)] at h1
      have eJ : ((plc w0).map fun c => [c]).flatten = plc w0 := by rw [← List.flatMap_def, List.flatMap_singleton']
      have hpl : (plc w0).length ≤ 8 := by rw [eP, List.length_append, List.length_replicate, List.length_replicate]; exact hab
      refine ⟨D, _, rfl, rfl, SqL.of h1, by rw [eJ]; omega, ?_⟩
      rw [eJ, eP]
      rw [eP] at hpl
      refine ⟨_, rfl, ⟨_, rfl⟩, _, [57], rfl, rfl, by omega, ?_⟩
      rw [rstrip_pl h57]
      refine ⟨_, rfl, _, _, rfl, rfl, _, rfl, ?_⟩
      have kk := k H' s
      refine iteC (fun h => ?_) (fun h => ?_)
      · have e : f0 = 57 := by have := of_decide_eq_true h; simpa using this
        refine ⟨_, rfl, _, _, rfl, rfl, ?_⟩
        rw [if_pos e]
        exact kk
      · have e : ¬ f0 = 57 := fun z => of_decide_eq_false h (by rw [z])
        rw [if_neg e]
        refine ⟨_, rfl, _, rfl, _, rfl, _, rfl, by rw [List.length_replicate]; omega, [f0], a, rfl, by rw [List.length_replicate], by show 1 ≤ 100; decide, by omega, _, _, rfl, rfl, ?_⟩
        rw [rep_flat, decide_eq_true rfl]
        refine ⟨true, rfl, ?_⟩
        refine ⟨_, rfl, _, rfl, by rw [List.length_replicate]; omega, ?_⟩
        refine ⟨_, rfl, f0, FLT, rfl, rfl, _, rfl, ?_⟩
        rw [List.length_replicate]
        refine iteC (fun h2 => ?_) (fun h2 => ?_)
        · refine ⟨_, _, rfl, rfl, ?_⟩
          have := hF (of_decide_eq_true h2)
          have e2 : decide ((2 : Int) ≤ (a : Int)) = true := decide_eq_true (by omega)
          show Q (V.bl (decide ((2 : Int) ≤ (a : Int)))) H'
          rw [e2]
          exact kk
        · refine ⟨_, _, rfl, rfl, ?_⟩
          have e2 : decide ((1 : Int) ≤ (a : Int)) = true := decide_eq_true (by omega)
          show Q (V.bl (decide ((1 : Int) ≤ (a : Int)))) H'
          rw [e2]
          exact kk
abbrev s_shape_of : Stmt := top 23
theorem sc_shape_of : FnScope ["text", "lead", "body", "first", "whole", "rest", "end", "tail", "broken", "shape", "inner", "signs", "symbol"] ["text"] (defScope s_shape_of) := ⟨rfl, rfl, rfl, by decide +kernel, rfl, by decide +kernel, by decide +kernel⟩
theorem ok_shape_of {P : Program} {w : World} {K : PySem.W.Frag} {mg : Str → Option Value} {base : Heap} {f C : Addr} {fd : FuncData} (F : Fun K "shape_of" "shape_of" s_shape_of f fd) (T : Txt K mg C) (C_lead_of : Cal P w K mg base "lead_of" 2 ["text"] spLeadOf) (C_tail_of : Cal P w K mg base "tail_of" 1 ["text"] spTailOf) (MKI : MkI P w K mg base C) (C_is_whole_part : Cal P w K mg base "is_whole_part" 1 ["whole", "first"] spIsWhole) (C_before : CalM P w K mg base C "before" 2 ["self"] (spBefore C)) (C_is_number_form : Cal P w K mg base "is_number_form" 1 ["text"] spIsNum) :
    FnOk P w K mg base CX0 3 f fd ["text"] (spShapeOf C) := by
  obtain ⟨f_lead_of, fd_lead_of, G_lead_of, m_lead_of, k_lead_of, b_lead_of⟩ := C_lead_of.ex
  obtain ⟨f_tail_of, fd_tail_of, G_tail_of, m_tail_of, k_tail_of, b_tail_of⟩ := C_tail_of.ex
  obtain ⟨f_init, fd_init, gi, MK, G_init, b_init⟩ := MKI.ex
  obtain ⟨f_is_whole_part, fd_is_whole_part, G_is_whole_part, m_is_whole_part, k_is_whole_part, b_is_whole_part⟩ := C_is_whole_part.ex
  obtain ⟨f_before, fd_before, G_before, m_before, b_before⟩ := C_before.ex
  obtain ⟨f_is_number_form, fd_is_number_form, G_is_number_form, m_is_number_form, k_is_number_form, b_is_number_form⟩ := C_is_number_form.ex
  refine F.ok sc_shape_of (fun vs H Q E h => ?_) (fun cdv A outer s H vs Q E hr h => ?_)
  · obtain ⟨p, rfl, hd, k⟩ := h
    rfl
  · obtain ⟨p, rfl, hd, k⟩ := h
    refine ⟨_, (pss_cons (ps_set (i := 1) sc_shape_of.nd rfl (Or.inl rfl) (pe_call G_lead_of (hr.mono (by decide)) (by rfl) m_lead_of k_lead_of b_lead_of .nil pass0 (pa_cons (pv 0) pa_nil)))
      (pss_cons (ps_set (i := 2) sc_shape_of.nd rfl (Or.inl rfl) (pe_slice sl_S (pv 0) (po_some (pe_callB len_S (by rfl) T.len (by decide +kernel) (pa_cons (pv 1) pa_nil))) po_none))
      (pss_cons (ps_set (i := 3) sc_shape_of.nd rfl (Or.inl rfl) (pe_slice sl_S (pv 2) po_none (po_some pe_int)))
      (pss_cons (ps_asg (pe_m1 PySem.F.slot_str_split PySem.F.type_str_split m_split (pv 2) (pe_txt (l := [46]) (by decide +kernel))) (pg_star rfl (pg_name (i := 4) sc_shape_of.nd rfl (Or.inl rfl)) (pg_name (i := 5) sc_shape_of.nd rfl (Or.inl rfl))))
      (pss_cons (ps_set (i := 6) sc_shape_of.nd rfl (Or.inl rfl) (pe_ifExp (pt_truth (pv 5) (by intro _; rfl)) (pe_ix ix_list (pv 5) (pe_un un_neg pe_int) (fun _ _ => rfl)) (pv 4)))
      (pss_cons (ps_set (i := 7) sc_shape_of.nd rfl (Or.inl rfl) (pe_ifExp (PW.pt (pw_and (pt_not (pt_truth (pv 5) (by intro _; rfl))) (pw_and (pt_cmpR o_eqS (pe_m1 PySem.F.slot_str_strip PySem.F.type_str_strip m_strip (pv 6) (pe_op o_addS (pv 3) (pe_con' (by rfl) T.INSERTED))) (pe_txt (l := []) (by decide +kernel)) (nomark _)) (pw_and1 (pt_cmpR op_in_seq (pv 3) (pe_tup (pa_cons (pe_txt (l := [43]) (by decide +kernel)) (pa_cons (pe_txt (l := [45]) (by decide +kernel)) pa_nil))) (by rfl)))))) (pe_txt (l := []) (by decide +kernel)) (pe_call G_tail_of (hr.mono (by decide)) (by rfl) m_tail_of k_tail_of b_tail_of .nil pass0 (pa_cons (pv 6) pa_nil))))
      (pss_cons (ps_if (PW.pt (pw_or (pt_cmpR op_gt (pe_callB call_len_seq (by rfl) T.len (by decide +kernel) (pa_cons (pv 5) pa_nil)) pe_int (nomark _)) (pw_or (pt_cmpR o_eqS (pv 3) (pe_txt (l := []) (by decide +kernel)) (nomark _)) (pw_or1 (pt_cmpR o_ninC (pv 3) (pe_txt (l := [57, 90, 42, 43, 45, 36]) (by decide +kernel)) (by rfl)))))) (pss_one (ps_ret pe_non)) pss_nil)
      (pss_cons (ps_set (i := 8) sc_shape_of.nd rfl (Or.inl rfl) (pe_ifExp (pt_not (pt_truth (pv 5) (by intro _; rfl))) (pe_txt (l := []) (by decide +kernel)) (pe_slice sl_S (pe_ix ix_list (pv 5) pe_int (fun _ _ => rfl)) po_none (po_some (pe_op op_sub (pe_callB len_S (by rfl) T.len (by decide +kernel) (pa_cons (pe_ix ix_list (pv 5) pe_int (fun _ _ => rfl)) pa_nil)) (pe_callB len_S (by rfl) T.len (by decide +kernel) (pa_cons (pv 7) pa_nil)))))))
      (pss_cons (ps_set (i := 4) sc_shape_of.nd rfl (Or.inl rfl) (pe_ifExp (pt_truth (pv 5) (by intro _; rfl)) (pv 4) (pe_slice sl_S (pv 4) po_none (po_some (pe_op op_sub (pe_callB len_S (by rfl) T.len (by decide +kernel) (pa_cons (pv 4) pa_nil)) (pe_callB len_S (by rfl) T.len (by decide +kernel) (pa_cons (pv 7) pa_nil)))))))
      (pss_cons (ps_set (i := 9) sc_shape_of.nd rfl (Or.inl rfl) (pe_makeK MK G_init (hr.mono (by decide)) (by rfl) T.mgC b_init pass0 (pa_cons (pv 1) (pa_cons (pv 4) (pa_cons (pv 8) (pa_cons (pv 7) pa_nil)))) (pk_cons (pv 3) pk_nil)))
      (pss_cons (ps_if (PW.pt (pw_or (pt_not (pt_val (pe_call G_is_whole_part (hr.mono (by decide)) (by rfl) m_is_whole_part k_is_whole_part b_is_whole_part .nil pass0 (pa_cons (pv 4) (pa_cons (pv 3) pa_nil))))) (pw_or1 (PW.pt (pw_and (pt_truth (pv 5) (by intro _; rfl)) (pw_and1 (pt_cmpR o_eqS (pv 8) (pe_txt (l := []) (by decide +kernel)) (nomark _)))))))) (pss_one (ps_ret pe_non)) pss_nil)
      (pss_cons (ps_set (i := 10) sc_shape_of.nd rfl (Or.inl rfl) (pe_m1 PySem.F.slot_str_join PySem.F.type_str_join m_join (pe_txt (l := []) (by decide +kernel)) (pe_lc (own := [("symbol", 12)]) rfl sc_shape_of.nd (pi_str (pv 4)) (blkOk_by (N := ["text", "lead", "body", "first", "whole", "rest", "end", "tail", "broken", "shape", "inner", "signs", "symbol"]) (sc := defScope s_shape_of) (by decide +kernel)) (fun _ _ _ _ _ => (pg_name (i := 12) sc_shape_of.nd rfl (Or.inl rfl))) (fun _ _ _ _ _ => pts_one (pt_cmpR o_ninC (pv 12) (pe_con' (by rfl) T.INSERTED) (by rfl))) (fun _ _ _ _ _ => (pv 12)))))
      (pss_cons (ps_if (PW.pt (pw_and (pt_cmpR o_neS (pe_m1 PySem.F.slot_str_strip PySem.F.type_str_strip m_strip (pv 8) (pe_txt (l := [57]) (by decide +kernel))) (pe_txt (l := []) (by decide +kernel)) (nomark _)) (pw_and1 (PW.pt (pw_or (pt_cmpR o_ninC (pv 3) (pe_txt (l := [90, 42]) (by decide +kernel)) (by rfl)) (pw_or (pt_cmpR o_neS (pe_m1 PySem.F.slot_str_strip PySem.F.type_str_strip m_strip (pv 8) (pv 3)) (pe_txt (l := []) (by decide +kernel)) (nomark _)) (pw_or1 (pt_cmpR o_neS (pe_m1 PySem.F.slot_str_strip PySem.F.type_str_strip m_strip (pv 10) (pv 3)) (pe_txt (l := []) (by decide +kernel)) (nomark _))))))))) (pss_one (ps_ret pe_non)) pss_nil)
      (pss_cons (ps_set (i := 11) sc_shape_of.nd rfl (Or.inl rfl) (pe_op op_add (pe_op op_add (pe_callTy call_int1 (by rfl) T.int (by decide +kernel) (pa_cons (pe_or (pe_cmpR o_inC (pe_txt (l := [43]) (by decide +kernel)) (pv 1) (by rfl)) (pe_one (pe_cmpR o_inC (pe_txt (l := [45]) (by decide +kernel)) (pv 1) (by rfl)))) pa_nil)) (pe_callTy call_int1 (by rfl) T.int (by decide +kernel) (pa_cons (pe_cmpR o_inC (pv 3) (pe_txt (l := [43, 45]) (by decide +kernel)) (by rfl)) pa_nil))) (pe_callTy call_int1 (by rfl) T.int (by decide +kernel) (pa_cons (pe_cmpR o_neS (pv 7) (pe_txt (l := []) (by decide +kernel)) (nomark _)) pa_nil))))
      (pss_cons (ps_if (PW.pt (pw_or (pt_cmpR op_gt (pv 11) pe_int (nomark _)) (pw_or (PW.pt (pw_and (pt_cmpR o_inC (pe_txt (l := [36]) (by decide +kernel)) (pv 1) (by rfl)) (pw_and1 (pt_cmpR o_eqS (pv 3) (pe_txt (l := [36]) (by decide +kernel)) (nomark _))))) (pw_or1 (pt_not (pt_chain op_le op_le pe_int (pe_op op_add (pe_meth0 (pv 9) T.cl m_before G_before (hr.mono (by decide)) b_before .nil pass0) (pe_callB len_S (by rfl) T.len (by decide +kernel) (pa_cons (pv 8) pa_nil))) (pe_con' (by rfl) T.MOST_FIGURES))))))) (pss_one (ps_ret pe_non)) pss_nil)
      (pss_one (ps_ret (pe_ifExp (pt_val (pe_call G_is_number_form (hr.mono (by decide)) (by rfl) m_is_number_form k_is_number_form b_is_number_form .nil pass0 (pa_cons (pv 0) pa_nil))) pe_non (pv 9))))))))))))))))))), ?_⟩
    have ll := line_len hd
    have lw := hd.ln
    have l1 := lead_len hd
    have l2 := tail_len hd
    have l3 := br_len hd
    have l4 := dot_len hd
    obtain ⟨w0, ew⟩ := hd.hd
    have lbody : (p.whole ++ dot p ++ p.tail).length ≤ 100 := by rw [List.length_append, List.length_append]; omega
    -- lead, body, first
    refine ⟨_, rfl, line p, rfl, by omega, fun H1 s1 => ?_⟩
    rw [lead_ok hd]
    refine ⟨_, rfl, _, rfl, p.lead, rfl, by omega, _, rfl, line p, rfl, by omega, ?_⟩
    rw [cutL_drop, body_eq]
    refine ⟨_, rfl, _, rfl, _, rfl, by omega, ?_⟩
    have eF : cutL (p.whole ++ dot p ++ p.tail) none (some 1) = [p.first] := by
      refine (cutL_take (p.whole ++ dot p ++ p.tail) 1).trans ?_
      rw [ew]; rfl
    rw [eF]
    refine ⟨_, rfl, ⟨_, rfl⟩, _, 46, rfl, rfl, by decide, by omega, fun a1 ha1 => ?_⟩
    have eB := spl_body hd
    have s2 := s1.trans (sm_new (o := .lst ((TL.spl [46] 0 [] (p.whole ++ dot p ++ p.tail)).map fun z => V.str (S z))) (Same.refl H1) ha1)
    by_cases hb : p.broken = []
    case' pos =>
      rw [if_pos hb] at eB
      refine ⟨a1, tS (p.whole ++ p.tail), [], rfl, SqL.of (by rw [upd_same, eB]; rfl), fun q hq => ?_⟩
      have s3 := s2.trans (sm_new (o := .lst []) (Same.refl _) hq)
      generalize hH2 : upd (upd H1 a1 (.lst ((TL.spl [46] 0 [] (p.whole ++ dot p ++ p.tail)).map fun z => V.str (S z)))) q (.lst []) = H2 at s3
      have hq2 : H2 q = some (.lst []) := by rw [← hH2]; exact upd_same
      clear hH2
      dsimp only
      refine normSS [some (tS (line p)), some (tS p.lead), some (tS (p.whole ++ dot p ++ p.tail)), some (tS [p.first]), some (tS (p.whole ++ p.tail)), some (.ref q), none, none, none, none, none, none, none] rfl ?_
      refine ⟨_, rfl, _, .inl ⟨[], SqL.of hq2, rfl⟩, iteN rfl ⟨_, rfl, ?_⟩⟩
      dsimp only
      refine normS [some (tS (line p)), some (tS p.lead), some (tS (p.whole ++ dot p ++ p.tail)), some (tS [p.first]), some (tS (p.whole ++ p.tail)), some (.ref q), some (tS (p.whole ++ p.tail)), none, none, none, none, none, none] rfl (stepC (cutSetN (tS p.tail) [some (tS (line p)), some (tS p.lead), some (tS (p.whole ++ dot p ++ p.tail)), some (tS [p.first]), some (tS (p.whole ++ p.tail)), some (.ref q), some (tS (p.whole ++ p.tail)), some (tS p.tail), none, none, none, none, none] rfl (fun H0 s4 => ?_) (fun Q' g => ?_)))
      rotate_left
      · refine ⟨_, rfl, _, .inl ⟨[], SqL.of hq2, rfl⟩, iteE rfl ⟨_, rfl, ⟨_, rfl⟩, _, rfl, [p.first], INS, rfl, rfl, by show 5 ≤ 1000; decide, _, _, rfl, rfl, by rw [List.length_append]; omega, _, _, rfl, rfl, _, rfl, ?_⟩⟩
        refine iteC (fun h => ?_) (fun h => ?_)
        · have h := of_decide_eq_true h
          refine ⟨_, rfl, by show 2 ≤ sizeLine; decide, fun t ht => ⟨t, _, rfl, .inr (SqT.of upd_same), rfl, rfl, _, rfl, ?_⟩⟩
          have sT := sm_new (o := .tup [tS [43], tS [45]]) (Same.refl H2) ht
          have eI : inV (tS [p.first]) [tS [43], tS [45]] = decide ([p.first] = [43] ∨ [p.first] = [45]) := inV_two _ _ _
          refine iteC (fun h2 => ?_) (fun h2 => ?_)
          · have h2 : inV (tS [p.first]) [tS [43], tS [45]] = true := h2
            rw [eI] at h2
            have ht0 : p.tail = [] := hd.t1 ((of_decide_eq_true h2).elim (fun z => .inl (by simpa using z)) fun z => .inr (.inl (by simpa using z)))
            have := g _ sT
            rw [ht0] at this
            exact this
          · have h2 : inV (tS [p.first]) [tS [43], tS [45]] = false := h2
            rw [eI] at h2
            refine ⟨_, rfl, _, rfl, by rw [List.length_append]; omega, fun H4 s5 => ?_⟩
            rw [tail_no_point hd fun z => of_decide_eq_false h2 (z.2.elim (fun y => .inl (by rw [y])) fun y => .inr (by rw [y]))]
            exact g _ (sT.trans s5)
        · have h := of_decide_eq_false h
          refine ⟨_, rfl, _, rfl, by rw [List.length_append]; omega, fun H4 s5 => ?_⟩
          rw [tail_no_point hd fun z => h z.1]
          exact g _ s5
      have hq0 := s4 _ _ hq2
      have s5 := s3.trans s4
      clear s4 s3
      refine ⟨_, rfl, q, _, rfl, .inl (SqL.of hq0), _, _, rfl, rfl, _, rfl, iteN (by decide) ⟨_, rfl, _, _, rfl, rfl, _, rfl, iteN (decide_eq_false (by simp)) ⟨_, rfl, p.first, _, rfl, rfl, _, rfl, iteN (by rw [decide_eq_true hd.f6]; rfl) ?_⟩⟩⟩
      dsimp only
      refine stepN (cutSetN (tS p.broken) [some (tS (line p)), some (tS p.lead), some (tS (p.whole ++ dot p ++ p.tail)), some (tS [p.first]), some (tS (p.whole ++ p.tail)), some (.ref q), some (tS (p.whole ++ p.tail)), some (tS p.tail), some (tS p.broken), none, none, none, none] rfl (fun H3 s9 => ?_) (fun Q' g => ?_))
      rotate_left
      · refine ⟨_, rfl, _, .inl ⟨[], SqL.of hq0, rfl⟩, iteE rfl ?_⟩
        have := g _ (Same.refl _)
        rw [hb] at this
        exact this
      have hq3 := s9 _ _ hq0
      obtain ⟨R, hR, hR1, hR2⟩ : ∃ R : List V, H3 q = some (.lst R) ∧ (R = [] → p.broken = []) ∧ R.length ≤ 1 := ⟨[], hq3, fun _ => hb, by decide⟩
      replace s5 := s5.trans s9
      clear s9
      refine ⟨_, rfl, _, .inl ⟨[], SqL.of hq3, rfl⟩, iteN rfl ⟨_, rfl, _, rfl, p.whole ++ p.tail, rfl, by rw [List.length_append]; omega, _, rfl, p.tail, rfl, by omega, _, _, rfl, rfl, _, rfl, p.whole ++ p.tail, rfl, by rw [List.length_append]; omega, ?_⟩⟩
      have eW : cutL (p.whole ++ p.tail) none (some (((p.whole ++ p.tail).length : Int) - (p.tail.length : Int))) = p.whole := by
        have e1 : ((p.whole ++ p.tail).length : Int) - (p.tail.length : Int) = ((p.whole.length : Nat) : Int) := by rw [List.length_append]; omega
        rw [e1, cutL_take, List.take_left]
      rw [eW]
    case' neg =>
      rw [if_neg hb] at eB
      refine ⟨a1, tS p.whole, [tS (p.broken ++ p.tail)], rfl, SqL.of (by rw [upd_same, eB]; rfl), fun q hq => ?_⟩
      have s3 := s2.trans (sm_new (o := .lst [tS (p.broken ++ p.tail)]) (Same.refl _) hq)
      generalize hH2 : upd (upd H1 a1 (.lst ((TL.spl [46] 0 [] (p.whole ++ dot p ++ p.tail)).map fun z => V.str (S z)))) q (.lst [tS (p.broken ++ p.tail)]) = H2 at s3
      have hq2 : H2 q = some (.lst [tS (p.broken ++ p.tail)]) := by rw [← hH2]; exact upd_same
      clear hH2
      dsimp only
      refine normSS [some (tS (line p)), some (tS p.lead), some (tS (p.whole ++ dot p ++ p.tail)), some (tS [p.first]), some (tS p.whole), some (.ref q), none, none, none, none, none, none, none] rfl ?_
      refine ⟨_, rfl, _, .inl ⟨_, SqL.of hq2, rfl⟩, iteE rfl ⟨_, rfl, _, rfl, q, _, -1, _, rfl, rfl, SqL.of hq2, rfl, ?_⟩⟩
      dsimp only
      refine normS [some (tS (line p)), some (tS p.lead), some (tS (p.whole ++ dot p ++ p.tail)), some (tS [p.first]), some (tS p.whole), some (.ref q), some (tS (p.broken ++ p.tail)), none, none, none, none, none, none] rfl ?_
      refine ⟨_, rfl, _, .inl ⟨_, SqL.of hq2, rfl⟩, iteN rfl ?_⟩
      refine ⟨_, rfl, _, rfl, by rw [List.length_append]; omega, fun H3 s4 => ?_⟩
      rw [tail_point hd hb]
      have hq3 := s4 _ _ hq2
      have s5 := s3.trans s4
      clear s4 s3
      obtain ⟨R, hR, hR1, hR2⟩ : ∃ R : List V, H3 q = some (.lst R) ∧ (R = [] → p.broken = []) ∧ R.length ≤ 1 := ⟨_, hq3, fun z => by simp at z, Nat.le_refl 1⟩
      refine ⟨_, rfl, q, _, rfl, .inl (SqL.of hq3), _, _, rfl, rfl, _, rfl, iteN (by rfl) ⟨_, rfl, _, _, rfl, rfl, _, rfl, iteN (decide_eq_false (by simp)) ⟨_, rfl, p.first, _, rfl, rfl, _, rfl, iteN (by rw [decide_eq_true hd.f6]; rfl) ?_⟩⟩⟩
      refine ⟨_, rfl, _, .inl ⟨_, SqL.of hq3, rfl⟩, iteN rfl ⟨_, rfl, q, _, 0, _, rfl, rfl, SqL.of hq3, rfl, _, rfl, q, _, 0, _, rfl, rfl, SqL.of hq3, rfl, p.broken ++ p.tail, rfl, by rw [List.length_append]; omega, _, rfl, p.tail, rfl, by omega, _, _, rfl, rfl, _, rfl, p.broken ++ p.tail, rfl, by rw [List.length_append]; omega, ?_⟩⟩
      have eW : cutL (p.broken ++ p.tail) none (some (((p.broken ++ p.tail).length : Int) - (p.tail.length : Int))) = p.broken := by
        have e1 : ((p.broken ++ p.tail).length : Int) - (p.tail.length : Int) = ((p.broken.length : Nat) : Int) := by rw [List.length_append]; omega
        rw [e1, cutL_take, List.take_left]
      rw [eW]
      refine ⟨_, rfl, _, .inl ⟨_, SqL.of hq3, rfl⟩, iteE rfl ⟨_, rfl, ?_⟩⟩
    all_goals
      dsimp only
      refine normS [some (tS (line p)), some (tS p.lead), some (tS (p.whole ++ dot p ++ p.tail)), some (tS [p.first]), some (tS p.whole), some (.ref q), some _, some (tS p.tail), some (tS p.broken), none, none, none, none] rfl ?_
      refine ⟨_, rfl, _, rfl, _, rfl, _, rfl, _, rfl, rfl, rfl, fun x dx hx hdx nx => ?_⟩
      refine ⟨x, dx, p, rfl, upd_same, rfl, ?_⟩
      have s6 : Same H3 (upd (upd (upd H3 dx (.own x)) x (.ins C dx [])) x (.ins C dx (shF p))) := sm_mut (sm_mut (sm_new (Same.refl _) hdx) hx) hx
      have hsh : ShAt C (upd (upd (upd H3 dx (.own x)) x (.ins C dx [])) x (.ins C dx (shF p))) x p := ⟨dx, upd_same⟩
      generalize upd (upd (upd H3 dx (.own x)) x (.ins C dx [])) x (.ins C dx (shF p)) = H4 at s6 hsh
      have hR4 := s6 _ _ hR
      have s7 := s5.trans s6
      -- the tests
      dsimp only
      refine normS [some (tS (line p)), some (tS p.lead), some (tS (p.whole ++ dot p ++ p.tail)), some (tS [p.first]), some (tS p.whole), some (.ref q), some _, some (tS p.tail), some (tS p.broken), some (.ref x), none, none, none] rfl (stepC (cutIf false (fun H5 s8 => iteF ?_) (fun Q' g => ?_)))
      rotate_left
      · refine ⟨_, rfl, _, rfl, p.whole, p.first, rfl, by omega, hd.pl, fun H5 s8 => ⟨_, rfl, iteN rfl ⟨_, rfl, _, .inl ⟨R, SqL.of (s8 _ _ hR4), rfl⟩, ?_⟩⟩⟩
        refine iteC (fun h => ?_) (fun h => g _ s8)
        refine ⟨_, rfl, _, _, rfl, rfl, _, rfl, ?_⟩
        have hbn : p.broken ≠ [] := by
          intro z
          have hz : R ≠ [] := fun y => by rw [y] at h; cases h
          first
            | exact hb z
            | (cases R with
               | nil => exact hz rfl
               | cons r R => exact absurd hR4 (by
                   have := s6 _ _ hq3
                   rw [this]
                   intro e
                   cases e))
        rw [decide_eq_false hbn]
        exact g _ s8
      have s9 := s7.trans s8
      have hsh5 := s8.sh hsh
      dsimp only
      refine stepN (cutSetN (tS (plc p.whole)) [some (tS (line p)), some (tS p.lead), some (tS (p.whole ++ dot p ++ p.tail)), some (tS [p.first]), some (tS p.whole), some (.ref q), some _, some (tS p.tail), some (tS p.broken), some (.ref x), some (tS (plc p.whole)), none, none] rfl (fun H6 s10 => ?_) (fun Q' g => ?_))
      rotate_left
      · refine ⟨⟨_, rfl⟩, _, rfl, _, rfl, fun D hD => ?_⟩
        refine lc_str (l := p.whole) (fun i H' => H' D = some (.lst (((plc (p.whole.take i)).map fun c => [c]).map fun z => V.str (S z))) ∧ Same H5 H') ⟨upd_same, sm_new (Same.refl _) hD⟩ ?_ ?_
        · rintro i c H' hc ⟨h1, s⟩
          have hi : i < p.whole.length := (List.getElem?_eq_some_iff.mp hc).1
          have ht : p.whole.take (i + 1) = p.whole.take i ++ [c] := by rw [List.take_add_one, hc]; rfl
          refine ⟨rfl, _, rfl, c, INS, rfl, rfl, _, rfl, ?_⟩
          refine iteC (fun h => ?_) (fun h => ?_)
          · refine ⟨_, rfl, _, h1, ?_, ?_, sm_mut s hD⟩
            · rw [List.length_map, List.length_map]
              have : (plc (p.whole.take i)).length ≤ (p.whole.take i).length := List.length_filter_le _ _
              rw [List.length_take] at this
              exact Nat.lt_of_le_of_lt (show _ ≤ 1000 by omega) (by decide)
            · rw [upd_same, ht]
              have : plc (p.whole.take i ++ [c]) = plc (p.whole.take i) ++ [c] := by
                unfold plc
                rw [List.filter_append]
                congr 1
                rw [List.filter_cons, if_pos h]
                rfl
              rw [this, List.map_append, List.map_append]
              rfl
          · refine ⟨?_, s⟩
            rw [ht]
            have : plc (p.whole.take i ++ [c]) = plc (p.whole.take i) := by
              unfold plc
              rw [List.filter_append, List.filter_cons, if_neg (by rw [h]; simp)]
              simp
            rw [this]
            exact h1
        · rintro H' ⟨h1, s⟩
          rw [List.take_of_length_le (Nat.le_refl _)] at h1
          have eJ : ((plc p.whole).map fun c => [c]).flatten = plc p.whole := by rw [← List.flatMap_def, List.flatMap_singleton']
          have hpl : (plc p.whole).length ≤ p.whole.length := List.length_filter_le _ _
          refine ⟨D, _, rfl, rfl, SqL.of h1, by rw [eJ]; omega, ?_⟩
          rw [eJ]
          exact g _ s
      have s11 := s9.trans s10
      have hsh6 := s10.sh hsh5
      have hpl : (plc p.whole).length ≤ p.whole.length := List.length_filter_le _ _
      dsimp only
      refine stepC (cutIf false (fun H7 s12 => iteF ?_) (fun Q' g => ?_))
      rotate_left
      · refine ⟨_, rfl, ⟨_, rfl⟩, p.broken, [57], rfl, rfl, by omega, _, _, rfl, rfl, _, rfl, ?_⟩
        refine iteC (fun h => ?_) (fun h => g _ (Same.refl _))
        have h := ndT h
        obtain ⟨f2, b2, b3⟩ := (br_strip hd).resolve_left h
        have f3 : p.first ∈ ([90, 42] : List Nat) := by rcases f2 with z | z <;> rw [z] <;> decide
        refine ⟨_, rfl, p.first, _, rfl, rfl, _, rfl, iteN (by rw [decide_eq_true f3]; rfl) ⟨_, rfl, ⟨_, rfl⟩, _, rfl, p.broken, [p.first], rfl, rfl, by omega, _, _, rfl, rfl, _, rfl, iteN (by rw [decide_eq_true b2]; rfl) ⟨_, rfl, ⟨_, rfl⟩, _, rfl, plc p.whole, [p.first], rfl, rfl, by omega, _, _, rfl, rfl, _, rfl, ?_⟩⟩⟩
        rw [decide_eq_true b3]
        exact g _ (Same.refl _)
      have s13 := s11.trans s12
      have hsh7 := s12.sh hsh6
      -- the signs
      have one := sign_one hd
      dsimp only
      refine stepN (cutSetN (.int (((if 43 ∈ p.lead ∨ 45 ∈ p.lead then 1 else 0) + (if p.first = 43 ∨ p.first = 45 then 1 else 0) + (if p.tail ≠ [] then 1 else 0) : Nat) : Int)) [some (tS (line p)), some (tS p.lead), some (tS (p.whole ++ dot p ++ p.tail)), some (tS [p.first]), some (tS p.whole), some (.ref q), some _, some (tS p.tail), some (tS p.broken), some (.ref x), some (tS (plc p.whole)), some _, none] rfl (fun H8 s14 => ?_) (fun Q' g => ?_))
      rotate_left
      · have g0 := g _ (Same.refl _)
        have e2 : (if decide (p.first ∈ ([43, 45] : List Nat)) = true then (1 : Int) else 0) = (((if p.first = 43 ∨ p.first = 45 then 1 else 0 : Nat)) : Int) := by
          by_cases hf : p.first = 43 ∨ p.first = 45
          · rw [if_pos hf, if_pos (by simpa using hf)]; rfl
          · rw [if_neg hf, if_neg (by simpa using hf)]; rfl
        have e3 : (if (!decide (p.tail = [])) = true then (1 : Int) else 0) = (((if p.tail ≠ [] then 1 else 0 : Nat)) : Int) := by
          by_cases hf : p.tail = []
          · have a1 : (!decide (p.tail = [])) = false := by rw [decide_eq_true hf]; rfl
            rw [a1]
            simp [hf]
          · have a1 : (!decide (p.tail = [])) = true := by rw [decide_eq_false hf]; rfl
            rw [a1]
            simp [hf]
        have go : ∀ b : Bool, b = decide (43 ∈ p.lead ∨ 45 ∈ p.lead) → Q' (.int ((if b = true then (1 : Int) else 0) + (if decide (p.first ∈ ([43, 45] : List Nat)) = true then (1 : Int) else 0) + (if (!decide (p.tail = [])) = true then (1 : Int) else 0))) H7 := fun b hb2 => by
          have e1 : (if b = true then (1 : Int) else 0) = (((if 43 ∈ p.lead ∨ 45 ∈ p.lead then 1 else 0 : Nat)) : Int) := by
            rw [hb2]
            by_cases hf : 43 ∈ p.lead ∨ 45 ∈ p.lead
            · rw [if_pos hf, if_pos (decide_eq_true hf)]; rfl
            · rw [if_neg hf, if_neg (by rw [decide_eq_false hf]; decide)]; rfl
          rw [e1, e2, e3, ← Int.natCast_add, ← Int.natCast_add]
          exact g0
        refine ⟨_, rfl, 43, p.lead, rfl, rfl, _, rfl, ?_⟩
        refine iteC (fun h => ?_) (fun h => ?_)
        · refine .inr ⟨_, rfl, _, rfl, p.first, _, rfl, rfl, .inr ⟨_, rfl, _, _, rfl, rfl, _, rfl, _, _, rfl, rfl, .inr ⟨_, rfl, _, _, rfl, rfl, ?_⟩⟩⟩
          exact go true (decide_eq_true (.inl (of_decide_eq_true h))).symm
        · refine ⟨_, rfl, 45, p.lead, rfl, rfl, .inr ⟨_, rfl, _, rfl, p.first, _, rfl, rfl, .inr ⟨_, rfl, _, _, rfl, rfl, _, rfl, _, _, rfl, rfl, .inr ⟨_, rfl, _, _, rfl, rfl, ?_⟩⟩⟩⟩
          refine go (decide (45 ∈ p.lead)) ?_
          by_cases h45 : 45 ∈ p.lead
          · rw [decide_eq_true h45, decide_eq_true (Or.inr h45)]
          · rw [decide_eq_false h45, decide_eq_false (fun z => z.elim (of_decide_eq_false h) h45)]
      have s15 := s13.trans s14
      have hsh8 := s14.sh hsh7
      have bp := bef_pos hd
      dsimp only
      refine stepC (cutIf false (fun H9 s16 => iteF ?_) (fun Q' g => ?_))
      rotate_left
      · refine ⟨_, rfl, _, _, rfl, rfl, _, rfl, iteN (decide_eq_false (by omega)) ⟨_, rfl, 36, p.lead, rfl, rfl, _, rfl, ?_⟩⟩
        refine iteC (fun h => ⟨_, rfl, _, _, rfl, rfl, _, rfl, iteN (decide_eq_false fun z => hd.l2 (by simpa using z) (of_decide_eq_true h)) ?_⟩) (fun h => ?_)
        all_goals
          obtain ⟨dy, ey⟩ := id hsh8
          refine ⟨_, rfl, x, dy, _, rfl, ey, sh_before p, x, p, rfl, hsh8, hd.pl, lw, fun H9 s16 => ?_⟩
          refine ⟨_, rfl, p.broken, rfl, by omega, _, _, rfl, rfl, _, _, rfl, rfl, _, rfl, iteE (decide_eq_true (by omega)) ⟨_, _, rfl, rfl, _, rfl, ?_⟩⟩
          have e18 : decide ((bef p : Int) + (p.broken.length : Int) ≤ 18) = true := decide_eq_true (by omega)
          show Q' (!decide ((bef p : Int) + (p.broken.length : Int) ≤ 18)) H9
          rw [e18]
          exact g _ s16
      have s17 := s15.trans s16
      have hsh9 := s16.sh hsh8
      refine ⟨_, rfl, line p, rfl, line_no hd (by decide), line_no hd (by decide), by omega, fun H10 s18 => ?_⟩
      rw [not_num hd]
      exact ⟨_, rfl, iteN rfl ⟨_, rfl, k x H10 (s17.trans s18) (s18.sh hsh9)⟩⟩
abbrev s_form_of : Stmt := top 24
theorem sc_form_of : FnScope ["text", "symbol", "kind"] ["text"] (defScope s_form_of) := ⟨rfl, rfl, rfl, by decide +kernel, rfl, by decide +kernel, by decide +kernel⟩
theorem ok_form_of {P : Program} {w : World} {K : PySem.W.Frag} {mg : Str → Option Value} {base : Heap} {f C : Addr} {fd : FuncData} (F : Fun K "form_of" "form_of" s_form_of f fd) (T : Txt K mg C) (C_is_number_form : Cal P w K mg base "is_number_form" 1 ["text"] spIsNum) (C_shape_of : Cal P w K mg base "shape_of" 3 ["text"] (spShapeOf C)) :
    FnOk P w K mg base CX0 4 f fd ["text"] spFormOf := by
  obtain ⟨f_is_number_form, fd_is_number_form, G_is_number_form, m_is_number_form, k_is_number_form, b_is_number_form⟩ := C_is_number_form.ex
  obtain ⟨f_shape_of, fd_shape_of, G_shape_of, m_shape_of, k_shape_of, b_shape_of⟩ := C_shape_of.ex
  refine F.ok sc_form_of (fun vs H Q E h => ?_) (fun cdv A outer s H vs Q E hr h => ?_)
  · obtain ⟨p, rfl, hd, k⟩ := h
    rfl
  · obtain ⟨p, rfl, hd, k⟩ := h
    refine ⟨_, (pss_cons (ps_if (pt_val (pe_call G_is_number_form (hr.mono (by decide)) (by rfl) m_is_number_form k_is_number_form b_is_number_form .nil pass0 (pa_cons (pv 0) pa_nil))) (pss_one (ps_ret (pe_txt (l := [110, 117, 109, 98, 101, 114]) (by decide +kernel)))) pss_nil)
      (pss_cons (ps_for PassesOwn.never rfl (pi_tup (pe_tup (pa_cons (pe_tup (pa_cons (pe_txt (l := [88]) (by decide +kernel)) (pa_cons (pe_txt (l := [116, 101, 120, 116]) (by decide +kernel)) pa_nil))) (pa_cons (pe_tup (pa_cons (pe_txt (l := [65]) (by decide +kernel)) (pa_cons (pe_txt (l := [108, 101, 116, 116, 101, 114, 115]) (by decide +kernel)) pa_nil))) pa_nil)))) (pg_tup rfl (pgs_cons (pg_name (i := 1) sc_form_of.nd rfl (Or.inl rfl)) (pgs_cons (pg_name (i := 2) sc_form_of.nd rfl (Or.inl rfl)) pgs_nil))) (pss_one (ps_if (PW.pt (pw_and (pt_chain op_le op_le pe_int (pe_callB len_S (by rfl) T.len (by decide +kernel) (pa_cons (pv 0) pa_nil)) (pe_con' (by rfl) T.MOST_SIGNS)) (pw_and1 (pt_cmpR o_eqS (pv 0) (pe_op o_mulS (pv 1) (pe_callB len_S (by rfl) T.len (by decide +kernel) (pa_cons (pv 0) pa_nil))) (nomark _))))) (pss_one (ps_ret (pv 2))) pss_nil)))
      (pss_one (ps_ret (pe_ifExp (pt_cmpR op_notN (pe_call G_shape_of (hr.mono (by decide)) (by rfl) m_shape_of k_shape_of b_shape_of .nil pass0 (pa_cons (pv 0) pa_nil)) pe_non (nomark _)) (pe_txt (l := [101, 100, 105, 116, 101, 100]) (by decide +kernel)) pe_non))))), ?_⟩
    have ll := line_len hd
    have hne : 1 ≤ (line p).length := by
      have := first_in hd
      cases hq : line p with
      | nil => rw [hq] at this; cases this
      | cons c r => simp
    refine ⟨_, rfl, line p, rfl, line_no hd (by decide), line_no hd (by decide), by omega, fun H1 s1 => ⟨_, rfl, ?_⟩⟩
    rw [not_num hd]
    refine iteN rfl ⟨by show 2 ≤ sizeLine; decide, fun t1 h1 => ⟨by show 2 ≤ sizeLine; decide, fun t2 h2 => ⟨by show 2 ≤ sizeLine; decide, fun t3 h3 => ⟨t3, rfl, ⟨_, SqT.of upd_same⟩, ?_⟩⟩⟩⟩
    generalize ex1 : V.str (S [88]) = x1 at *
    generalize ex2 : V.str (S [65]) = x2 at *
    have e1 : (upd (upd H1 t1 (.tup [x1, tS [116, 101, 120, 116]])) t2 (.tup [x2, tS [108, 101, 116, 116, 101, 114, 115]])) t1 = some (.tup [x1, tS [116, 101, 120, 116]]) := by
      rw [upd_ne (ne_of_none upd_same h2), upd_same]
    have e2 : (upd (upd H1 t1 (.tup [x1, tS [116, 101, 120, 116]])) t2 (.tup [x2, tS [108, 101, 116, 116, 101, 114, 115]])) t2 = some (.tup [x2, tS [108, 101, 116, 116, 101, 114, 115]]) := upd_same
    have s2 := (sm_new (o := .tup [x1, tS [116, 101, 120, 116]]) s1 h1)
    have s3 := (sm_new (o := .tup [x2, tS [108, 101, 116, 116, 101, 114, 115]]) s2 h2)
    generalize upd (upd H1 t1 (.tup [x1, tS [116, 101, 120, 116]])) t2 (.tup [x2, tS [108, 101, 116, 116, 101, 114, 115]]) = H2 at e1 e2 s3 h3 ⊢
    have f1 : (upd H2 t3 (.tup [.ref t1, .ref t2])) t1 = some (.tup [x1, tS [116, 101, 120, 116]]) := by rw [upd_ne (ne_of_none e1 h3)]; exact e1
    have f2 : (upd H2 t3 (.tup [.ref t1, .ref t2])) t2 = some (.tup [x2, tS [108, 101, 116, 116, 101, 114, 115]]) := by rw [upd_ne (ne_of_none e2 h3)]; exact e2
    have f3 : (upd H2 t3 (.tup [.ref t1, .ref t2])) t3 = some (.tup [.ref t1, .ref t2]) := upd_same
    have s4 := (sm_new (o := .tup [.ref t1, .ref t2]) s3 h3)
    generalize upd H2 t3 (.tup [.ref t1, .ref t2]) = H3 at f1 f2 f3 s4 ⊢
    refine for_tup (K := K) (a := t3) (xs := [.ref t1, .ref t2]) (fun i σ H' => H' = H3 ∧ ∃ y n : Option V, σ = [some (tS (line p)), y, n]) ⟨rfl, none, none, rfl⟩ (fun i σ H' _ h => by rw [h.1]; exact SqT.of f3) ?_ ?_
    · rintro i x σ H' hx ⟨rfl, y, n, rfl⟩
      obtain ⟨t, c, w, rfl, ht, hc⟩ : ∃ (t : Addr) (c : Nat) (w : List Nat), x = .ref t ∧ H' t = some (.tup [tS [c], tS w]) ∧ c ∉ line p := by
        match i, hx with
        | 0, hx =>
          have : V.ref t1 = x := by simpa using hx
          exact ⟨t1, 88, _, this.symm, by rw [f1, ← ex1], line_no hd (by decide)⟩
        | 1, hx =>
          have : V.ref t2 = x := by simpa using hx
          exact ⟨t2, 65, _, this.symm, by rw [f2, ← ex2], line_no hd (by decide)⟩
        | i + 2, hx => simp at hx
      refine ⟨t, _, rfl, SqT.of ht, rfl, _, _, rfl, _, _, rfl, rfl, ?_⟩
      refine ⟨_, rfl, line p, rfl, by omega, _, _, rfl, rfl, _, rfl, iteE (decide_eq_true (by omega)) ⟨_, _, rfl, rfl, _, rfl, ?_⟩⟩
      refine iteE (decide_eq_true (by omega)) ⟨_, rfl, _, rfl, _, rfl, line p, rfl, by omega, [c], (line p).length, rfl, rfl, by show 1 ≤ 100; decide, by omega, _, _, rfl, rfl, _, rfl, iteN ?_ ⟨rfl, some _, some _, rfl⟩⟩
      refine decide_eq_false fun z => ?_
      have m := first_in hd
      rw [z, rep_flat] at m
      have := (List.mem_replicate.mp m).2
      have m2 := first_in hd
      rw [this] at m2
      exact hc m2
    · rintro σ H' ⟨rfl, y, n, rfl⟩
      refine ⟨_, rfl, p, rfl, hd, fun a H4 s5 sh => ⟨rfl, _, rfl, iteE rfl (k H4 (s4.trans s5))⟩⟩
abbrev s_is_picture : Stmt := top 25
theorem sc_is_picture : FnScope ["thing", "text"] ["thing"] (defScope s_is_picture) := ⟨rfl, rfl, rfl, by decide +kernel, rfl, by decide +kernel, by decide +kernel⟩
theorem ok_is_picture {P : Program} {w : World} {K : PySem.W.Frag} {mg : Str → Option Value} {base : Heap} {f C : Addr} {fd : FuncData} (F : Fun K "is_picture" "is_picture" s_is_picture f fd) (T : Txt K mg C) (C_written_out : Cal P w K mg base "written_out" 2 ["text"] spWritten) (C_form_of : Cal P w K mg base "form_of" 4 ["text"] spFormOf) :
    FnOk P w K mg base CX0 5 f fd ["thing"] spIsPic := by
  obtain ⟨f_written_out, fd_written_out, G_written_out, m_written_out, k_written_out, b_written_out⟩ := C_written_out.ex
  obtain ⟨f_form_of, fd_form_of, G_form_of, m_form_of, k_form_of, b_form_of⟩ := C_form_of.ex
  refine F.ok sc_is_picture (fun vs H Q E h => ?_) (fun cdv A outer s H vs Q E hr h => ?_)
  · obtain ⟨p, rfl, hd, k⟩ := h
    rfl
  · obtain ⟨p, rfl, hd, k⟩ := h
    refine ⟨_, (pss_cons (ps_if (PW.pt (pw_or (pt_not (pt_val (pe_callB call_isi (by rfl) T.isinstance (by decide +kernel) (pa_cons (pv 0) (pa_cons (pe_bltn (v := .ty "str") (by rfl) T.str (by decide +kernel) rfl) pa_nil))))) (pw_or1 (pt_cmpR o_eqS (pv 0) (pe_txt (l := []) (by decide +kernel)) (nomark _))))) (pss_one (ps_ret pe_bl)) pss_nil)
      (pss_cons (ps_set (i := 1) sc_is_picture.nd rfl (Or.inl rfl) (pe_call G_written_out (hr.mono (by decide)) (by rfl) m_written_out k_written_out b_written_out .nil pass0 (pa_cons (pv 0) pa_nil)))
      (pss_one (ps_ret (pe_and (pe_cmpR op_notN (pv 1) pe_non (nomark _)) (pe_one (pe_cmpR op_notN (pe_call G_form_of (hr.mono (by decide)) (by rfl) m_form_of k_form_of b_form_of .nil pass0 (pa_cons (pv 1) pa_nil)) pe_non (nomark _)))))))), ?_⟩
    have ll := line_len hd
    have hne : line p ≠ [] := fun z => by have := first_in hd; rw [z] at this; cases this
    refine ⟨_, rfl, _, _, .type "str", .type "str", true, rfl, .ty "str", .base (.str _), kit_ty (by decide +kernel), _, rfl, iteN rfl ⟨_, rfl, _, _, rfl, rfl, _, rfl, iteN (decide_eq_false hne) ?_⟩⟩
    refine ⟨_, rfl, line p, rfl, line_no hd (by decide), by omega, fun H1 s1 => ?_⟩
    refine ⟨_, rfl, rfl, _, rfl, ?_⟩
    refine ⟨_, rfl, p, rfl, hd, fun H2 s2 => ⟨rfl, k H2 (s1.trans s2)⟩⟩
abbrev s_unfolded : Stmt := top 26
theorem sc_unfolded : FnScope ["text"] ["text"] (defScope s_unfolded) := ⟨rfl, rfl, rfl, by decide +kernel, rfl, by decide +kernel, by decide +kernel⟩
theorem ok_unfolded {P : Program} {w : World} {K : PySem.W.Frag} {mg : Str → Option Value} {base : Heap} {f C : Addr} {fd : FuncData} (F : Fun K "unfolded" "unfolded" s_unfolded f fd) (T : Txt K mg C) (C_is_picture : Cal P w K mg base "is_picture" 5 ["thing"] spIsPic) (C_written_out : Cal P w K mg base "written_out" 2 ["text"] spWritten) :
    FnOk P w K mg base CX0 6 f fd ["text"] spUnf := by
  obtain ⟨f_is_picture, fd_is_picture, G_is_picture, m_is_picture, k_is_picture, b_is_picture⟩ := C_is_picture.ex
  obtain ⟨f_written_out, fd_written_out, G_written_out, m_written_out, k_written_out, b_written_out⟩ := C_written_out.ex
  refine F.ok sc_unfolded (fun vs H Q E h => ?_) (fun cdv A outer s H vs Q E hr h => ?_)
  · obtain ⟨p, rfl, hd, k⟩ := h
    rfl
  · obtain ⟨p, rfl, hd, k⟩ := h
    refine ⟨_, (pss_cons (ps_if (pt_not (pt_val (pe_call G_is_picture (hr.mono (by decide)) (by rfl) m_is_picture k_is_picture b_is_picture .nil pass0 (pa_cons (pv 0) pa_nil)))) (pss_one ps_never) pss_nil)
      (pss_one (ps_ret (pe_call G_written_out (hr.mono (by decide)) (by rfl) m_written_out k_written_out b_written_out .nil pass0 (pa_cons (pv 0) pa_nil))))), ?_⟩
    have ll := line_len hd
    refine ⟨_, rfl, p, rfl, hd, fun H1 s1 => ⟨_, rfl, iteN rfl ?_⟩⟩
    exact ⟨_, rfl, line p, rfl, line_no hd (by decide), by omega, fun H2 s2 => k H2 (s1.trans s2)⟩
abbrev s_kind_of : Stmt := top 27
theorem sc_kind_of : FnScope ["picture"] ["picture"] (defScope s_kind_of) := ⟨rfl, rfl, rfl, by decide +kernel, rfl, by decide +kernel, by decide +kernel⟩
theorem ok_kind_of {P : Program} {w : World} {K : PySem.W.Frag} {mg : Str → Option Value} {base : Heap} {f C : Addr} {fd : FuncData} (F : Fun K "kind_of" "kind_of" s_kind_of f fd) (T : Txt K mg C) (C_form_of : Cal P w K mg base "form_of" 4 ["text"] spFormOf) (C_unfolded : Cal P w K mg base "unfolded" 6 ["text"] spUnf) :
    FnOk P w K mg base CX0 7 f fd ["picture"] spKind := by
  obtain ⟨f_form_of, fd_form_of, G_form_of, m_form_of, k_form_of, b_form_of⟩ := C_form_of.ex
  obtain ⟨f_unfolded, fd_unfolded, G_unfolded, m_unfolded, k_unfolded, b_unfolded⟩ := C_unfolded.ex
  refine F.ok sc_kind_of (fun vs H Q E h => ?_) (fun cdv A outer s H vs Q E hr h => ?_)
  · obtain ⟨p, rfl, hd, k⟩ := h
    rfl
  · obtain ⟨p, rfl, hd, k⟩ := h
    refine ⟨_, (pss_one (ps_ret (pe_call G_form_of (hr.mono (by decide)) (by rfl) m_form_of k_form_of b_form_of .nil pass0 (pa_cons (pe_call G_unfolded (hr.mono (by decide)) (by rfl) m_unfolded k_unfolded b_unfolded .nil pass0 (pa_cons (pv 0) pa_nil)) pa_nil)))), ?_⟩
    exact ⟨_, rfl, p, rfl, hd, fun H1 s1 => ⟨p, rfl, hd, fun H2 s2 => k H2 (s1.trans s2)⟩⟩
abbrev s_room : Stmt := top 28
theorem sc_room : FnScope ["picture", "text", "kind", "shape", "whole", "rest", "part"] ["picture"] (defScope s_room) := ⟨rfl, rfl, rfl, by decide +kernel, rfl, by decide +kernel, by decide +kernel⟩
theorem ok_room {P : Program} {w : World} {K : PySem.W.Frag} {mg : Str → Option Value} {base : Heap} {f C : Addr} {fd : FuncData} (F : Fun K "room" "room" s_room f fd) (T : Txt K mg C) (C_unfolded : Cal P w K mg base "unfolded" 6 ["text"] spUnf) (C_form_of : Cal P w K mg base "form_of" 4 ["text"] spFormOf) (C_shape_of : Cal P w K mg base "shape_of" 3 ["text"] (spShapeOf C)) (C_marks : CalM P w K mg base C "marks" 1 ["self"] (spMarks C)) (C_before : CalM P w K mg base C "before" 2 ["self"] (spBefore C)) :
    FnOk P w K mg base CX0 7 f fd ["picture"] spRoom := by
  obtain ⟨f_unfolded, fd_unfolded, G_unfolded, m_unfolded, k_unfolded, b_unfolded⟩ := C_unfolded.ex
  obtain ⟨f_form_of, fd_form_of, G_form_of, m_form_of, k_form_of, b_form_of⟩ := C_form_of.ex
  obtain ⟨f_shape_of, fd_shape_of, G_shape_of, m_shape_of, k_shape_of, b_shape_of⟩ := C_shape_of.ex
  obtain ⟨f_marks, fd_marks, G_marks, m_marks, b_marks⟩ := C_marks.ex
  obtain ⟨f_before, fd_before, G_before, m_before, b_before⟩ := C_before.ex
  refine F.ok sc_room (fun vs H Q E h => ?_) (fun cdv A outer s H vs Q E hr h => ?_)
  · obtain ⟨p, rfl, hd, k⟩ := h
    rfl
  · obtain ⟨p, rfl, hd, k⟩ := h
    refine ⟨_, (pss_cons (ps_set (i := 1) sc_room.nd rfl (Or.inl rfl) (pe_call G_unfolded (hr.mono (by decide)) (by rfl) m_unfolded k_unfolded b_unfolded .nil pass0 (pa_cons (pv 0) pa_nil)))
      (pss_cons (ps_set (i := 2) sc_room.nd rfl (Or.inl rfl) (pe_call G_form_of (hr.mono (by decide)) (by rfl) m_form_of k_form_of b_form_of .nil pass0 (pa_cons (pv 1) pa_nil)))
      (pss_cons (ps_if (pt_cmpR op_in_seq (pv 2) (pe_tup (pa_cons (pe_txt (l := [116, 101, 120, 116]) (by decide +kernel)) (pa_cons (pe_txt (l := [108, 101, 116, 116, 101, 114, 115]) (by decide +kernel)) pa_nil))) (by rfl)) (pss_one ps_never) pss_nil)
      (pss_cons (ps_if (pt_cmpR o_eqS (pv 2) (pe_txt (l := [101, 100, 105, 116, 101, 100]) (by decide +kernel)) (nomark _)) (pss_cons (ps_set (i := 3) sc_room.nd rfl (Or.inl rfl) (pe_call G_shape_of (hr.mono (by decide)) (by rfl) m_shape_of k_shape_of b_shape_of .nil pass0 (pa_cons (pv 1) pa_nil)))
      (pss_one (ps_ret (pe_tup (pa_cons (pe_cmpR op_notN (pe_meth0 (pv 3) T.cl m_marks G_marks (hr.mono (by decide)) b_marks .nil pass0) pe_non (nomark _)) (pa_cons (pe_meth0 (pv 3) T.cl m_before G_before (hr.mono (by decide)) b_before .nil pass0) (pa_cons (pe_callB len_S (by rfl) T.len (by decide +kernel) (pa_cons (pe_fld (pv 3) rfl) pa_nil)) pa_nil))))))) pss_nil)
      pss_never)))), ?_⟩
    have l3 := br_len hd
    refine ⟨_, rfl, p, rfl, hd, fun H1 s1 => ?_⟩
    refine ⟨_, rfl, p, rfl, hd, fun H2 s2 => ?_⟩
    refine ⟨_, rfl, by show 2 ≤ sizeLine; decide, fun t ht => ⟨t, _, rfl, .inr (SqT.of upd_same), rfl, rfl, _, rfl, ?_⟩⟩
    have s3 := sm_new (o := .tup [tS [116, 101, 120, 116], tS [108, 101, 116, 116, 101, 114, 115]]) (s1.trans s2) ht
    refine iteN (by decide +kernel) ⟨_, rfl, _, _, rfl, rfl, _, rfl, iteE rfl ?_⟩
    refine ⟨_, rfl, p, rfl, hd, fun a H3 s4 sh => ?_⟩
    obtain ⟨dx, ha⟩ := id sh
    refine ⟨_, rfl, a, dx, _, rfl, ha, sh_marks p, a, p, rfl, sh, tail_len hd, fun v hv => ?_⟩
    refine ⟨rfl, _, rfl, a, dx, _, rfl, ha, sh_before p, a, p, rfl, sh, hd.pl, hd.ln, fun H4 s5 => ?_⟩
    obtain ⟨dy, hb⟩ := s5.sh sh
    refine ⟨_, rfl, a, C, dy, _, _, rfl, hb, T.cl, T.nB, sh_broken p, p.broken, rfl, by omega, by show 3 ≤ sizeLine; decide, fun t2 ht2 => ?_⟩
    refine k t2 _ (sm_new ((s3.trans s4).trans s5) ht2) ?_
    rw [upd_same, hv, Bool.not_not]
    rfl
abbrev s_look_edited : Stmt := top 30
theorem sc_look_edited : FnScope ["picture"] ["picture"] (defScope s_look_edited) := ⟨rfl, rfl, rfl, by decide +kernel, rfl, by decide +kernel, by decide +kernel⟩
theorem ok_look_edited {P : Program} {w : World} {K : PySem.W.Frag} {mg : Str → Option Value} {base : Heap} {f C : Addr} {fd : FuncData} (F : Fun K "look_edited" "look_edited" s_look_edited f fd) (T : Txt K mg C) (C_kind_of : Cal P w K mg base "kind_of" 7 ["picture"] spKind) (C_shape_of : Cal P w K mg base "shape_of" 3 ["text"] (spShapeOf C)) (C_unfolded : Cal P w K mg base "unfolded" 6 ["text"] spUnf) :
    FnOk P w K mg base CX0 8 f fd ["picture"] (spLook C) := by
  obtain ⟨f_kind_of, fd_kind_of, G_kind_of, m_kind_of, k_kind_of, b_kind_of⟩ := C_kind_of.ex
  obtain ⟨f_shape_of, fd_shape_of, G_shape_of, m_shape_of, k_shape_of, b_shape_of⟩ := C_shape_of.ex
  obtain ⟨f_unfolded, fd_unfolded, G_unfolded, m_unfolded, k_unfolded, b_unfolded⟩ := C_unfolded.ex
  refine F.ok sc_look_edited (fun vs H Q E h => ?_) (fun cdv A outer s H vs Q E hr h => ?_)
  · obtain ⟨p, rfl, hd, k⟩ := h
    rfl
  · obtain ⟨p, rfl, hd, k⟩ := h
    refine ⟨_, (pss_cons (ps_if (pt_cmpR o_neS (pe_call G_kind_of (hr.mono (by decide)) (by rfl) m_kind_of k_kind_of b_kind_of .nil pass0 (pa_cons (pv 0) pa_nil)) (pe_txt (l := [101, 100, 105, 116, 101, 100]) (by decide +kernel)) (nomark _)) (pss_one ps_never) pss_nil)
      (pss_one (ps_ret (pe_call G_shape_of (hr.mono (by decide)) (by rfl) m_shape_of k_shape_of b_shape_of .nil pass0 (pa_cons (pe_call G_unfolded (hr.mono (by decide)) (by rfl) m_unfolded k_unfolded b_unfolded .nil pass0 (pa_cons (pv 0) pa_nil)) pa_nil))))), ?_⟩
    refine ⟨_, rfl, p, rfl, hd, fun H1 s1 => ⟨_, _, rfl, rfl, _, rfl, iteN rfl ?_⟩⟩
    exact ⟨_, rfl, p, rfl, hd, fun H2 s2 => ⟨p, rfl, hd, fun a H3 s3 sh => k a H3 ((s1.trans s2).trans s3) sh⟩⟩
abbrev s_figures_of : Stmt := top 31
theorem sc_figures_of : FnScope ["amount", "before", "behind", "units", "figures", "kept"] ["amount", "before", "behind"] (defScope s_figures_of) := ⟨rfl, rfl, rfl, by decide +kernel, rfl, by decide +kernel, by decide +kernel⟩
theorem ok_figures_of {P : Program} {w : World} {K : PySem.W.Frag} {mg : Str → Option Value} {base : Heap} {f C : Addr} {fd : FuncData} (F : Fun K "figures_of" "figures_of" s_figures_of f fd) (T : Txt K mg C) (C_cut : Cal P w K mg base "cut" 2 ["amount", "places"] (spCut K)) :
    FnOk P w K mg base CX0 3 f fd ["amount", "before", "behind"] (spFig K) := by
  obtain ⟨f_cut, fd_cut, G_cut, m_cut, k_cut, b_cut⟩ := C_cut.ex
  refine F.ok sc_figures_of (fun vs H Q E h => ?_) (fun cdv A outer s H vs Q E hr h => ?_)
  · obtain ⟨a, u, b, k0, rfl, hS, hu, h1, h5, k⟩ := h
    rfl
  · obtain ⟨a, u, b, k0, rfl, hS, hu, h1, h5, k⟩ := h
    refine ⟨_, (pss_cons (ps_set (i := 3) sc_figures_of.nd rfl (Or.inl rfl) (pe_ix ix_tup (pe_call G_cut (hr.mono (by decide)) (by rfl) m_cut k_cut b_cut .nil pass0 (pa_cons (pv 0) (pa_cons (pv 2) pa_nil))) pe_int (fun _ _ => rfl)))
      (pss_cons (ps_set (i := 4) sc_figures_of.nd rfl (Or.inl rfl) (pe_m1 PySem.F.slot_str_zfill PySem.F.type_str_zfill m_zfill (pe_callTy call_strI (by rfl) T.str (by decide +kernel) (pa_cons (pe_callB call_abs (by rfl) T.abs (by decide +kernel) (pa_cons (pv 3) pa_nil)) pa_nil)) (pe_op op_add (pv 1) (pv 2))))
      (pss_cons (ps_set (i := 5) sc_figures_of.nd rfl (Or.inl rfl) (pe_slice sl_S (pv 4) (po_some (pe_op op_sub (pe_op op_sub (pe_callB len_S (by rfl) T.len (by decide +kernel) (pa_cons (pv 4) pa_nil)) (pv 1)) (pv 2))) po_none))
      (pss_one (ps_ret (pe_tup (pa_cons (pe_and (pe_cmpR op_lt (pv 3) pe_int (nomark _)) (pe_one (pe_cmpR o_neS (pe_m1 PySem.F.slot_str_strip PySem.F.type_str_strip m_strip (pv 5) (pe_txt (l := [48]) (by decide +kernel))) (pe_txt (l := []) (by decide +kernel)) (nomark _)))) (pa_cons (pv 5) pa_nil)))))))), ?_⟩
    have hu6 : u.natAbs < 1000000 := Nat.lt_of_lt_of_le hu (Nat.le_trans (Nat.pow_le_pow_right (by decide) h5) (by decide))
    refine ⟨_, rfl, _, rfl, a, u, k0, rfl, hS, by omega, fun t H1 s1 ht => ?_⟩
    refine ⟨t, _, 0, _, rfl, rfl, SqT.of ht, rfl, ?_⟩
    have eA : (if u < 0 then -u else u) = ((u.natAbs : Nat) : Int) := by split <;> omega
    refine ⟨_, rfl, u, rfl, ?_⟩
    rw [eA]
    have nh : ∀ c, (TL.numL u.natAbs).head? = some c → 48 ≤ c ∧ c ≤ 57 := fun c hc => TL.numL_digits _ c (List.mem_of_mem_head? hc)
    refine ⟨u.natAbs, rfl, hu6, ⟨_, rfl⟩, _, rfl, _, rfl, _, _, rfl, rfl, TL.numL u.natAbs, b + k0, rfl, ?_, by omega, fun z => by have := nh _ z; omega, fun z => by have := nh _ z; omega, ?_⟩
    · show [V.int ((b : Int) + (k0 : Int))] = _
      rw [← Int.natCast_add]
    rw [zf_dgs _ _ h1 hu]
    have hlen := dgs_len (b + k0) u.natAbs
    refine ⟨_, rfl, _, rfl, _, rfl, by omega, _, rfl, _, _, rfl, rfl, _, rfl, _, _, rfl, rfl, _, rfl, _, rfl, by omega, ?_⟩
    have e0 : cutL (dgs (b + k0) u.natAbs) (some (((dgs (b + k0) u.natAbs).length : Int) - (b : Int) - (k0 : Int))) none = dgs (b + k0) u.natAbs := by
      rw [show ((dgs (b + k0) u.natAbs).length : Int) - (b : Int) - (k0 : Int) = ((0 : Nat) : Int) by omega, cutL_drop, List.drop_zero]
    rw [e0]
    refine ⟨_, rfl, _, _, rfl, rfl, _, rfl, ?_⟩
    have fin : ∀ b' : Bool, b' = decide (u < 0) → ∀ t2, H1 t2 = none → Q (.ref t2) (upd H1 t2 (.tup [.bl b', tS (dgs (b + k0) u.natAbs)])) := fun b' hb t2 ht2 => by
      refine k t2 _ (sm_new s1 ht2) ?_
      rw [upd_same, hb]
    refine iteC (fun h => ?_) (fun h => ?_)
    · refine ⟨_, rfl, ⟨_, rfl⟩, _, [48], rfl, rfl, by omega, _, _, rfl, rfl, _, rfl, by show 2 ≤ sizeLine; decide, fun t2 ht2 => fin _ ?_ t2 ht2⟩
      rw [decide_eq_false (dgs_strip hu (by have := of_decide_eq_true h; omega)), h]
      rfl
    · exact ⟨_, rfl, by show 2 ≤ sizeLine; decide, fun t2 ht2 => fin _ h.symm t2 ht2⟩
abbrev s_signed : Stmt := top 32
theorem sc_signed : FnScope ["symbol", "is_below"] ["symbol", "is_below"] (defScope s_signed) := ⟨rfl, rfl, rfl, by decide +kernel, rfl, by decide +kernel, by decide +kernel⟩
theorem ok_signed {P : Program} {w : World} {K : PySem.W.Frag} {mg : Str → Option Value} {base : Heap} {f C : Addr} {fd : FuncData} (F : Fun K "signed" "signed" s_signed f fd) (T : Txt K mg C) :
    FnOk P w K mg base CX0 1 f fd ["symbol", "is_below"] spSigned := by
  refine F.ok sc_signed (fun vs H Q E h => ?_) (fun cdv A outer s H vs Q E hr h => ?_)
  · obtain ⟨y, b, rfl, k⟩ := h
    rfl
  · obtain ⟨y, b, rfl, k⟩ := h
    refine ⟨_, (pss_cons (ps_if (pt_cmpR o_eqS (pv 0) (pe_txt (l := [43]) (by decide +kernel)) (nomark _)) (pss_one (ps_ret (pe_ifExp (pt_val (pv 1)) (pe_txt (l := [45]) (by decide +kernel)) (pe_txt (l := [43]) (by decide +kernel))))) pss_nil)
      (pss_cons (ps_if (pt_cmpR o_eqS (pv 0) (pe_txt (l := [45]) (by decide +kernel)) (nomark _)) (pss_one (ps_ret (pe_ifExp (pt_val (pv 1)) (pe_txt (l := [45]) (by decide +kernel)) (pe_txt (l := [32]) (by decide +kernel))))) pss_nil)
      (pss_cons (ps_if (pt_cmpR op_in_seq (pv 0) (pe_tup (pa_cons (pe_txt (l := [67, 82]) (by decide +kernel)) (pa_cons (pe_txt (l := [68, 66]) (by decide +kernel)) pa_nil))) (by rfl)) (pss_one (ps_ret (pe_ifExp (pt_val (pv 1)) (pv 0) (pe_txt (l := [32, 32]) (by decide +kernel))))) pss_nil)
      (pss_one (ps_ret (pv 0)))))), ?_⟩
    refine ⟨_, rfl, _, _, rfl, rfl, _, rfl, ?_⟩
    refine iteC (fun h => ?_) (fun h => ?_)
    · have h := of_decide_eq_true h
      have kk := k H (Same.refl _)
      unfold sgn at kk
      rw [if_pos h] at kk
      refine ⟨_, rfl, _, rfl, ?_⟩
      refine iteC (fun hb => ?_) (fun hb => ?_)
      · rw [if_pos hb] at kk; exact kk
      · rw [if_neg (by rw [hb]; decide)] at kk; exact kk
    have h := of_decide_eq_false h
    refine ⟨_, rfl, _, _, rfl, rfl, _, rfl, ?_⟩
    refine iteC (fun h2 => ?_) (fun h2 => ?_)
    · have h2 := of_decide_eq_true h2
      have kk := k H (Same.refl _)
      unfold sgn at kk
      rw [if_neg h, if_pos h2] at kk
      refine ⟨_, rfl, _, rfl, ?_⟩
      refine iteC (fun hb => ?_) (fun hb => ?_)
      · rw [if_pos hb] at kk; exact kk
      · rw [if_neg (by rw [hb]; decide)] at kk; exact kk
    have h2 := of_decide_eq_false h2
    refine ⟨_, rfl, by show 2 ≤ sizeLine; decide, fun t ht => ⟨t, _, rfl, .inr (SqT.of upd_same), rfl, rfl, _, rfl, ?_⟩⟩
    have kk := k _ (sm_new (o := .tup [tS [67, 82], tS [68, 66]]) (Same.refl H) ht)
    unfold sgn at kk
    rw [if_neg h, if_neg h2] at kk
    have eI : inV (tS y) [tS [67, 82], tS [68, 66]] = decide (y = [67, 82] ∨ y = [68, 66]) := inV_two _ _ _
    refine iteC (fun h3 => ?_) (fun h3 => ?_)
    · have h3 : inV (tS y) [tS [67, 82], tS [68, 66]] = true := h3
      rw [eI] at h3
      rw [if_pos (of_decide_eq_true h3)] at kk
      refine ⟨_, rfl, _, rfl, ?_⟩
      refine iteC (fun hb => ?_) (fun hb => ?_)
      · rw [if_pos hb] at kk; exact ⟨_, rfl, kk⟩
      · rw [if_neg (by rw [hb]; decide)] at kk; exact kk
    · have h3 : inV (tS y) [tS [67, 82], tS [68, 66]] = false := h3
      rw [eI] at h3
      rw [if_neg (of_decide_eq_false h3)] at kk
      exact ⟨_, rfl, kk⟩
abbrev s_whole_signs : Stmt := top 33
theorem sc_whole_signs : FnScope ["shape", "figures", "found", "last", "ended", "left", "at", "symbol", "figure"] ["shape", "figures"] (defScope s_whole_signs) := ⟨rfl, rfl, rfl, by decide +kernel, rfl, by decide +kernel, by decide +kernel⟩
def WWs (H : Hp) (a f lf : Addr) (p : BX.P) (ds : BX.T) (fl : Bool) (full : BX.T) (i : Nat) (σ : L2.St) (H' : Hp) : Prop := ∃ (cur : Option Nat) (en : Bool) (rem : BX.T) (y n d : Option V), i ≤ p.whole.length ∧
  σ = [some (.ref a), some (tS ds), some (.ref f), some (lastV cur), some (.bl en), some (.ref lf), y, n, d] ∧ Same H H' ∧ H' f = some (.lst ((full.take i).map c1)) ∧ H' lf = some (.lst (rem.map c1)) ∧
  fnd fl i (p.whole.drop i) rem = full.drop i ∧ lst fl i (p.whole.drop i) rem en cur = last p ds ∧ rem.length = BX.cnt fl i (p.whole.drop i)
theorem ok_whole_signs {P : Program} {w : World} {K : PySem.W.Frag} {mg : Str → Option Value} {base : Heap} {f C : Addr} {fd : FuncData} (F : Fun K "whole_signs" "whole_signs" s_whole_signs f fd) (T : Txt K mg C) (C_floats : CalM P w K mg base C "floats" 1 ["self"] (spFloats C)) :
    FnOk P w K mg base CX0 2 f fd ["shape", "figures"] (spWhole C) := by
  obtain ⟨f_floats, fd_floats, G_floats, m_floats, b_floats⟩ := C_floats.ex
  refine F.ok sc_whole_signs (fun vs H Q E h => ?_) (fun cdv A outer s H vs Q E hr h => ?_)
  · obtain ⟨a, p, ds, rfl, sh, hd, hl, k⟩ := h
    rfl
  · obtain ⟨a, p, ds, rfl, sh, hd, hl, k⟩ := h
    refine ⟨_, (pss_cons (ps_par3 (i := 2) (j := 3) (l := 4) rfl sc_whole_signs.nd rfl rfl rfl (by decide) (by decide) (by decide) rfl rfl rfl (pa_cons (pe_lst pa_nil) (pa_cons pe_non (pa_cons pe_bl pa_nil))) (by rfl))
      (pss_cons (ps_set (i := 5) sc_whole_signs.nd rfl (Or.inl rfl) (pe_callTy (call_listS rfl) (by rfl) T.list (by decide +kernel) (pa_cons (pv 1) pa_nil)))
      (pss_cons (ps_for PassesOwn.never rfl (pi_enumS (by rfl) T.enumerate (pa_cons (pe_fld (pv 0) rfl) pa_nil)) (pg_tup rfl (pgs_cons (pg_name (i := 6) sc_whole_signs.nd rfl (Or.inl rfl)) (pgs_cons (pg_name (i := 7) sc_whole_signs.nd rfl (Or.inl rfl)) pgs_nil))) (pss_cons (ps_if (pt_cmpR o_inC (pv 7) (pe_con' (by rfl) T.INSERTED) (by rfl)) (pss_cons (ps_expr (pe_bm PySem.F.plainAttrs_list PySem.F.slot_list_append PySem.F.type_list_append mt_append (pv 2) (pa_cons (pe_ifExp (pt_cmpR o_eqS (pv 7) (pe_txt (l := [66]) (by decide +kernel)) (nomark _)) (pe_txt (l := [32]) (by decide +kernel)) (pv 7)) pa_nil)))
      (pss_one ps_continue)) pss_nil)
      (pss_cons (ps_if (PW.pt (pw_and (pt_cmpR o_eqI (pv 6) pe_int (nomark _)) (pw_and1 (pt_val (pe_meth0 (pv 0) T.cl m_floats G_floats (hr.mono (by decide)) b_floats .nil pass0))))) (pss_cons (ps_expr (pe_bm PySem.F.plainAttrs_list PySem.F.slot_list_append PySem.F.type_list_append mt_append (pv 2) (pa_cons (pe_txt (l := [32]) (by decide +kernel)) pa_nil)))
      (pss_cons (ps_set (i := 3) sc_whole_signs.nd rfl (Or.inl rfl) (pv 6))
      (pss_one ps_continue))) pss_nil)
      (pss_cons (ps_set (i := 8) sc_whole_signs.nd rfl (Or.inl rfl) (pe_bm PySem.F.plainAttrs_list PySem.F.slot_list_pop PySem.F.type_list_pop mt_popAt (pv 5) (pa_cons pe_int pa_nil)))
      (pss_cons (ps_expr (pe_bm PySem.F.plainAttrs_list PySem.F.slot_list_append PySem.F.type_list_append mt_append (pv 2) (pa_cons (pv 8) pa_nil)))
      (pss_cons (ps_if (PW.pt (pw_or (pt_cmpR o_eqS (pv 7) (pe_txt (l := [57]) (by decide +kernel)) (nomark _)) (pw_or1 (pt_cmpR o_neS (pv 8) (pe_txt (l := [48]) (by decide +kernel)) (nomark _))))) (pss_one (ps_set (i := 4) sc_whole_signs.nd rfl (Or.inl rfl) pe_bl)) pss_nil)
      (pss_one (ps_if (pt_not (pt_val (pv 4))) (pss_one (ps_set (i := 3) sc_whole_signs.nd rfl (Or.inl rfl) (pv 6))) pss_nil))))))))
      (pss_one (ps_ret (pe_tup (pa_cons (pv 2) (pa_cons (pv 3) pa_nil)))))))), ?_⟩
    have lw := hd.ln
    have lb := bef_pos hd
    refine ⟨Nat.zero_le _, fun f hf => ⟨_, _, _, rfl, ?_⟩⟩
    refine ⟨_, rfl, ds, rfl, Nat.le_trans (show ds.length ≤ 1000 by omega) (by decide), fun lf hlf => ?_⟩
    have s1 := sm_new (o := .lst []) (Same.refl H) hf
    have hlf0 : H lf = none := s1.free hlf
    have nfl : f ≠ lf := ne_of_none upd_same hlf
    have s2 := sm_new (o := .lst (ds.map fun c => V.str (S [c]))) s1 hlf
    have hf2 : (upd (upd H f (.lst [])) lf (.lst (ds.map fun c => V.str (S [c])))) f = some (.lst []) := by rw [upd_ne nfl, upd_same]
    have hl2 : (upd (upd H f (.lst [])) lf (.lst (ds.map fun c => V.str (S [c])))) lf = some (.lst (ds.map c1)) := upd_same
    generalize upd (upd H f (.lst [])) lf (.lst (ds.map fun c => V.str (S [c]))) = H2 at s2 hf2 hl2 ⊢
    obtain ⟨dx, ha⟩ := id sh
    refine ⟨_, rfl, a, C, dx, _, _, rfl, s2 _ _ ha, T.cl, T.nW, sh_whole p, _, rfl, ?_⟩
    have hfull : (fnd (decide (p.first ∈ FLT)) 0 p.whole ds).length = p.whole.length := fnd_len _ _ _ _
    refine for_enumS (l := p.whole) (WWs H a f lf p ds (decide (p.first ∈ FLT)) (fnd (decide (p.first ∈ FLT)) 0 p.whole ds)) ⟨none, false, ds, none, none, none, Nat.zero_le _, rfl, s2, hf2, hl2, rfl, rfl, by rw [List.drop_zero, cnt_bef hd]; exact hl⟩ ?_ ?_
    · rintro i c σ H3 t hc ⟨cur, en, rem, y, n, d, hi, rfl, s3, h1, h2, e1, e2, e3⟩ ht
      have hlt : i < p.whole.length := (List.getElem?_eq_some_iff.mp hc).1
      have hdrop : p.whole.drop i = c :: p.whole.drop (i + 1) := by rw [List.drop_eq_getElem_cons hlt, (List.getElem?_eq_some_iff.mp hc).2]
      obtain ⟨x, hx⟩ : ∃ x, (fnd (decide (p.first ∈ FLT)) 0 p.whole ds)[i]? = some x := ⟨_, List.getElem?_eq_getElem (by rw [hfull]; exact hlt)⟩
      have hfd : (fnd (decide (p.first ∈ FLT)) 0 p.whole ds).drop i = x :: (fnd (decide (p.first ∈ FLT)) 0 p.whole ds).drop (i + 1) := by
        rw [List.drop_eq_getElem_cons (by rw [hfull]; exact hlt), (List.getElem?_eq_some_iff.mp hx).2]
      have hft : (fnd (decide (p.first ∈ FLT)) 0 p.whole ds).take (i + 1) = (fnd (decide (p.first ∈ FLT)) 0 p.whole ds).take i ++ [x] := by rw [List.take_add_one, hx]; rfl
      have hsz : (((fnd (decide (p.first ∈ FLT)) 0 p.whole ds).take i).map c1).length < sizeLine := by
        rw [List.length_map, List.length_take]
        exact Nat.lt_of_le_of_lt (show _ ≤ 1000 by omega) (by decide)
      have g1 : (((fnd (decide (p.first ∈ FLT)) 0 p.whole ds).take i).map c1) ++ [c1 x] = ((fnd (decide (p.first ∈ FLT)) 0 p.whole ds).take (i + 1)).map c1 := by rw [hft, List.map_append]; rfl
      generalize hfull0 : fnd (decide (p.first ∈ FLT)) 0 p.whole ds = full at *
      have hfl : decide (p.first ∈ FLT) = true ↔ p.first ∈ FLT := ⟨of_decide_eq_true, decide_eq_true⟩
      generalize hfl0 : decide (p.first ∈ FLT) = fl at *
      rw [hdrop] at e1 e2 e3
      rw [fnd_cons, hfd] at e1
      rw [lst_cons] at e2
      rw [BX.cnt_cons] at e3
      have s4 := sm_new (o := .tup [V.int (i : Int), tS [c]]) s3 ht
      have h1' : (upd H3 t (.tup [V.int (i : Int), tS [c]])) f = some (.lst ((full.take i).map c1)) := by rw [upd_ne (ne_of_none h1 ht)]; exact h1
      have h2' : (upd H3 t (.tup [V.int (i : Int), tS [c]])) lf = some (.lst (rem.map c1)) := by rw [upd_ne (ne_of_none h2 ht)]; exact h2
      have hT : SqT K (upd H3 t (.tup [V.int (i : Int), tS [c]])) t [V.int (i : Int), tS [c]] := SqT.of upd_same
      generalize upd H3 t (.tup [V.int (i : Int), tS [c]]) = H4 at s4 h1' h2' hT ⊢
      refine ⟨t, _, rfl, hT, rfl, _, _, rfl, _, _, rfl, rfl, ?_⟩
      refine normC (R := fun σ2 H2 => _) [some (.ref a), some (tS ds), some (.ref f), some (lastV cur), some (.bl en), some (.ref lf), some (.int i), some (tS [c]), d] rfl ?_
      refine ⟨_, rfl, c, INS, rfl, rfl, _, rfl, ?_⟩
      refine iteC (fun h => ?_) (fun h => ?_)
      · have hin := of_decide_eq_true h
        rw [if_pos hin] at e1 e2
        rw [if_neg (fun z => z.1 hin)] at e3
        injection e1 with e1a e1b
        refine ⟨_, rfl, .inl ⟨rfl, _, SqL.of h1'⟩, _, rfl, _, _, rfl, rfl, _, rfl, ?_⟩
        refine iteC (fun h2 => ?_) (fun h2 => ?_)
        · have : c = 66 := by have := of_decide_eq_true h2; simpa using this
          rw [if_pos this] at e1a
          refine ⟨f, _, _, rfl, rfl, h1', hsz, cur, en, rem, _, _, _, hlt, rfl, sm_mut s4 hf, ?_, ?_, e1b, e2, by rw [e3]; omega⟩
          · rw [upd_same, ← g1, e1a]
          · rw [upd_ne nfl.symm]; exact h2'
        · have : ¬ c = 66 := fun z => of_decide_eq_false h2 (by rw [z])
          rw [if_neg this] at e1a
          refine ⟨_, rfl, f, _, _, rfl, rfl, h1', hsz, cur, en, rem, _, _, _, hlt, rfl, sm_mut s4 hf, ?_, ?_, e1b, e2, by rw [e3]; omega⟩
          · rw [upd_same, ← g1, e1a]
          · rw [upd_ne nfl.symm]; exact h2'
      · have hin := of_decide_eq_false h
        rw [if_neg hin] at e1 e2
        dsimp only
        refine stepN (cutIf (decide (i = 0 ∧ fl = true)) (fun H5 s5 => ?_) (fun Q' g => ?_))
        rotate_left
        · refine ⟨_, rfl, _, _, rfl, rfl, _, rfl, ?_⟩
          refine iteC (fun h0 => ?_) (fun h0 => ?_)
          · have h0 : i = 0 := by have := of_decide_eq_true h0; omega
            refine ⟨_, rfl, a, dx, _, rfl, s4 _ _ ha, sh_floats p, a, p, rfl, ⟨dx, s4 _ _ ha⟩, _, rfl, ?_⟩
            rw [hfl0]
            have := g _ (Same.refl _)
            cases hq : fl with
            | true => rw [hq, decide_eq_true ⟨h0, rfl⟩] at this; exact this
            | false => rw [hq, decide_eq_false (fun z => nomatch z.2)] at this; exact this
          · have h0 : ¬ i = 0 := by have := of_decide_eq_false h0; omega
            have := g _ (Same.refl _)
            rw [decide_eq_false (fun z => h0 z.1)] at this
            exact this
        have s6 := s4.trans s5
        have h1'' := s5 _ _ h1'
        have h2'' := s5 _ _ h2'
        refine iteC (fun h0 => ?_) (fun h0 => ?_)
        · have h0 := of_decide_eq_true h0
          rw [if_pos h0] at e1 e2
          rw [if_neg (fun z => z.2 h0)] at e3
          injection e1 with e1a e1b
          refine ⟨_, rfl, .inl ⟨rfl, _, SqL.of h1''⟩, f, _, _, rfl, rfl, h1'', hsz, ?_⟩
          refine ⟨_, rfl, some i, en, rem, _, _, _, hlt, rfl, sm_mut s6 hf, ?_, ?_, e1b, e2, by rw [e3]; omega⟩
          · rw [upd_same, ← g1, e1a]
          · rw [upd_ne nfl.symm]; exact h2''
        · have h0 := of_decide_eq_false h0
          rw [if_neg h0] at e1 e2
          rw [if_pos ⟨hin, h0⟩] at e3
          injection e1 with e1a e1b
          cases hr : rem with
          | nil => rw [hr] at e3; simp at e3; omega
          | cons dg rem' =>
            rw [hr] at e1a e1b e2 e3 h2''
            rw [List.headD_cons] at e1a e2
            rw [List.tail_cons] at e1b e2
            refine ⟨_, rfl, .inl ⟨rfl, _, SqL.of h2''⟩, lf, _, 0, 0, _, rfl, rfl, h2'', by decide, by decide, ?_, rfl, ?_⟩
            · rw [List.map_cons, List.length_cons]
              unfold seqIndex?
              simp
            have hlE : ((dg :: rem').map c1).eraseIdx 0 = rem'.map c1 := rfl
            rw [hlE]
            have f1 : (upd H5 lf (.lst (rem'.map c1))) f = some (.lst ((full.take i).map c1)) := by rw [upd_ne nfl]; exact h1''
            refine ⟨_, rfl, .inl ⟨rfl, _, SqL.of f1⟩, _, rfl, f, _, _, rfl, rfl, f1, hsz, ?_⟩
            have s7 : Same H (upd (upd H5 lf (.lst (rem'.map c1))) f (.lst ((full.take i).map c1 ++ [c1 dg]))) := sm_mut (sm_mut s6 hlf0) hf
            have h3 : (upd (upd H5 lf (.lst (rem'.map c1))) f (.lst ((full.take i).map c1 ++ [c1 dg]))) f = some (.lst ((full.take (i + 1)).map c1)) := by rw [upd_same, ← g1, e1a]
            have h4 : (upd (upd H5 lf (.lst (rem'.map c1))) f (.lst ((full.take i).map c1 ++ [c1 dg]))) lf = some (.lst (rem'.map c1)) := by rw [upd_ne nfl.symm, upd_same]
            have e3' : rem'.length = BX.cnt fl (i + 1) (p.whole.drop (i + 1)) := by rw [List.length_cons] at e3; omega
            generalize upd (upd H5 lf (.lst (rem'.map c1))) f (.lst ((full.take i).map c1 ++ [c1 dg])) = H6 at s7 h3 h4 ⊢
            have fin2 : ∀ (en' : Bool) (rt : VK) (bk ct : L2.St → Hp → Prop), en' = (en || decide (c = 57 ∨ dg ≠ 48)) → (tIfS (tNot (tB (tVar 4))) (tAsg (tVar 6) (gName 3)) tNext) { nx := WWs H a f lf p ds fl full (i + 1), rt := rt, bk := bk, ct := ct } [some (.ref a), some (tS ds), some (.ref f), some (lastV cur), some (.bl en'), some (.ref lf), some (.int i), some (tS [c]), some (tS [dg])] H6 := fun en' rt bk ct he => by
              rw [← he] at e2
              refine ⟨_, rfl, _, rfl, ?_⟩
              cases hq : en' with
              | true =>
                rw [hq] at e2
                refine iteN rfl ⟨cur, true, rem', _, _, _, hlt, rfl, s7, h3, h4, e1b, e2, e3'⟩
              | false =>
                rw [hq] at e2
                refine iteE rfl ⟨_, rfl, some i, false, rem', _, _, _, hlt, rfl, s7, h3, h4, e1b, e2, e3'⟩
            refine ⟨_, rfl, _, _, rfl, rfl, _, rfl, ?_⟩
            refine iteC (fun h => ?_) (fun h => ?_)
            · have hc57 : c = 57 := by have := of_decide_eq_true h; simpa using this
              exact fin2 true _ _ _ (by rw [decide_eq_true (Or.inl hc57), Bool.or_true])
            · have hc57 : ¬ c = 57 := fun z => of_decide_eq_false h (by rw [z])
              refine ⟨_, rfl, _, _, rfl, rfl, _, rfl, ?_⟩
              refine iteC (fun h => ?_) (fun h => ?_)
              · have hd48 : dg ≠ 48 := fun z => ndT h (by rw [z])
                exact fin2 true _ _ _ (by rw [decide_eq_true (Or.inr hd48), Bool.or_true])
              · have hd48 : dg = 48 := by have := ndF h; simpa using this
                exact fin2 en _ _ _ (by rw [decide_eq_false (fun z => z.elim hc57 fun z => z hd48), Bool.or_false])
    · rintro σ H3 ⟨cur, en, rem, y, n, d, hi, rfl, s3, h1, h2, e1, e2, e3⟩
      rw [List.drop_eq_nil_of_le (Nat.le_refl _)] at e2
      have e2 : cur = last p ds := e2
      rw [List.take_of_length_le (by rw [hfull]; exact Nat.le_refl _)] at h1
      refine ⟨_, rfl, _, rfl, by show 2 ≤ sizeLine; decide, fun t ht => ?_⟩
      refine k t f _ (sm_new s3 ht) hf ?_ ?_
      · rw [upd_same, e2]
      · rw [upd_ne (ne_of_none h1 ht)]; exact h1
abbrev s_with_blanks : Stmt := top 34
theorem sc_with_blanks : FnScope ["shape", "found", "last", "end", "fill"] ["shape", "found", "last"] (defScope s_with_blanks) := ⟨rfl, rfl, rfl, by decide +kernel, rfl, by decide +kernel, by decide +kernel⟩
theorem ok_with_blanks {P : Program} {w : World} {K : PySem.W.Frag} {mg : Str → Option Value} {base : Heap} {f C : Addr} {fd : FuncData} (F : Fun K "with_blanks" "with_blanks" s_with_blanks f fd) (T : Txt K mg C) :
    FnOk P w K mg base CX0 1 f fd ["shape", "found", "last"] (spBlanks C) := by
  refine F.ok sc_with_blanks (fun vs H Q E h => ?_) (fun cdv A outer s H vs Q E hr h => ?_)
  · obtain ⟨a, fo, p, f, o, rfl, sh, hf, hlen, lw, ho, k⟩ := h
    rfl
  · obtain ⟨a, fo, p, f, o, rfl, sh, hf, hlen, lw, ho, k⟩ := h
    refine ⟨_, (pss_cons (ps_if (pt_cmpR op_isN (pv 2) pe_non (nomark _)) (pss_one (ps_ret (pv 1))) pss_nil)
      (pss_cons (ps_set (i := 3) sc_with_blanks.nd rfl (Or.inl rfl) (pe_op op_add (pv 2) pe_int))
      (pss_cons (ps_while PassesOwn.never (PW.pt (pw_and (pt_cmpR op_lt (pv 3) (pe_callB call_len_seq (by rfl) T.len (by decide +kernel) (pa_cons (pv 1) pa_nil)) (nomark _)) (pw_and1 (pt_cmpR o_inC (pe_ix ix_C (pe_fld (pv 0) rfl) (pv 3) (fun _ _ => rfl)) (pe_con' (by rfl) T.INSERTED) (by rfl))))) (pss_one (ps_aug (i := 3) sc_with_blanks.nd rfl (Or.inl rfl) pe_int ip_add)))
      (pss_cons (ps_set (i := 4) sc_with_blanks.nd rfl (Or.inl rfl) (pe_ifExp (pt_cmpR o_eqS (pe_fld (pv 0) rfl) (pe_txt (l := [42]) (by decide +kernel)) (nomark _)) (pe_txt (l := [42]) (by decide +kernel)) (pe_txt (l := [32]) (by decide +kernel))))
      (pss_one (ps_ret (pe_op op_cat (pe_op op_rep (pe_lst (pa_cons (pv 4) pa_nil)) (pv 3)) (pe_slice sl_list (pv 1) (po_some (pv 3)) po_none)))))))), ?_⟩
    obtain ⟨dx, ha⟩ := id sh
    cases o with
    | none =>
      refine ⟨_, rfl, rfl, _, rfl, iteE rfl ⟨_, rfl, k fo H (Same.refl _) (.inl rfl) hf⟩⟩
    | some l =>
      have hl := ho l rfl
      refine ⟨_, rfl, rfl, _, rfl, iteN rfl ⟨_, rfl, _, _, rfl, rfl, ?_⟩⟩
      dsimp only
      refine normS [some (.ref a), some (.ref fo), some (.int l), some (.int (l + 1)), none] rfl ?_
      refine stepC (cutWhile (fun σ' H' => σ' = [some (.ref a), some (.ref fo), some (.int l), some (.int (skp p.whole (l + 1))), none] ∧ H' = H) (fun σ' H' h => ?_) (fun nx' g => ?_))
      rotate_left
      · refine ⟨fun m σ' H' => ∃ e : Nat, m = p.whole.length - e ∧ e ≤ p.whole.length ∧ skp p.whole e = skp p.whole (l + 1) ∧ σ' = [some (.ref a), some (.ref fo), some (.int l), some (.int e), none] ∧ H' = H, ⟨_, l + 1, rfl, hl, rfl, rfl, rfl⟩, ?_⟩
        rintro m σ' H' ⟨e, rfl, he, hs, rfl, rfl⟩
        refine ⟨_, rfl, _, rfl, fo, _, rfl, .inl (SqL.of hf), _, _, rfl, rfl, _, rfl, ?_⟩
        refine iteC (fun h => ?_) (fun h => ?_)
        · have h := of_decide_eq_true h
          rw [List.length_map, hlen] at h
          have hlt : e < p.whole.length := by omega
          obtain ⟨c, hc⟩ : ∃ c, p.whole[e]? = some c := ⟨_, List.getElem?_eq_getElem hlt⟩
          have hstep := skp_step p.whole e c hc
          refine ⟨_, rfl, a, C, dx, _, _, rfl, ha, T.cl, T.nW, sh_whole p, _, rfl, p.whole, e, c, rfl, rfl, by omega, hc, _, _, rfl, rfl, _, rfl, ?_⟩
          refine iteC (fun h2 => ?_) (fun h2 => ?_)
          · have h2 := of_decide_eq_true h2
            rw [if_pos h2] at hstep
            refine ⟨fun σ2 H2 => ∃ e' : Nat, e' = e + 1 ∧ skp p.whole e' = skp p.whole (l + 1) ∧ σ2 = [some (.ref a), some (.ref fo), some (.int l), some (.int e'), none] ∧ H2 = H', ?_, ?_⟩
            · rintro σ2 H2 ⟨e', rfl, h3, rfl, rfl⟩
              exact ⟨_, by omega, e + 1, rfl, hlt, h3, rfl, rfl⟩
            · exact ⟨_, rfl, _, _, rfl, rfl, e + 1, rfl, by rw [← hstep]; exact hs, rfl, rfl⟩
          · have h2 := of_decide_eq_false h2
            rw [if_neg h2] at hstep
            exact g _ _ ⟨by rw [← hs, hstep], rfl⟩
        · have h := of_decide_eq_false h
          rw [List.length_map, hlen] at h
          have : e = p.whole.length := by omega
          exact g _ _ ⟨by rw [← hs, skp_end _ _ (by omega)], rfl⟩
      obtain ⟨rfl, rfl⟩ := h
      have hs1 := skp_le p.whole (l + 1) hl
      dsimp only
      refine stepC (cutSetN (c1 (BX.fill p)) [some (.ref a), some (.ref fo), some (.int l), some (.int (skp p.whole (l + 1))), some (c1 (BX.fill p))] rfl (fun H1 s1 => ?_) (fun Q' g => ?_))
      rotate_left
      · have g := g _ (Same.refl _)
        unfold BX.fill at g
        refine ⟨_, rfl, a, C, dx, _, _, rfl, ha, T.cl, T.nF, sh_first p, _, _, rfl, rfl, _, rfl, ?_⟩
        refine iteC (fun h => ?_) (fun h => ?_)
        · have : p.first = 42 := by have := of_decide_eq_true h; simpa using this
          rw [if_pos this] at g
          exact g
        · have : ¬ p.first = 42 := fun z => of_decide_eq_false h (by rw [z])
          rw [if_neg this] at g
          exact g
      generalize hE : skp p.whole (l + 1) = e at *
      refine ⟨_, rfl, by show 1 ≤ sizeLine; decide, fun t1 h1 => ?_⟩
      have hf1 := s1 _ _ hf
      refine ⟨_, rfl, t1, e, _, rfl, rfl, upd_same, by omega, by omega, ?_, fun t2 h2 => ?_⟩
      · rw [Int.toNat_natCast]
        exact Nat.le_trans (show 1 * e ≤ 1000 by omega) (by decide)
      have n1 : fo ≠ t1 := ne_of_none hf1 h1
      have hf2 : (upd (upd H1 t1 (.lst [c1 (BX.fill p)])) t2 (.lst (List.replicate ((e : Int)).toNat [c1 (BX.fill p)]).flatten)) fo = some (.lst (f.map c1)) := by
        rw [upd_ne (ne_of_none (by rw [upd_ne n1]; exact hf1) h2), upd_ne n1]; exact hf1
      refine ⟨_, rfl, _, rfl, _, rfl, fo, _, rfl, SqL.of hf2, fun t3 h3 => ?_⟩
      refine ⟨t2, t3, (List.replicate ((e : Int)).toNat [c1 (BX.fill p)]).flatten, cutV (f.map c1) (some (e : Int)) none, rfl, rfl, ?_, upd_same, ?_, fun t4 h4 => ?_⟩
      · rw [upd_ne (ne_of_none upd_same h3), upd_same]
      · rw [Int.toNat_natCast]
        have := cutV_length (f.map c1) (some (e : Int)) none
        have e5 : (List.replicate e [c1 (BX.fill p)]).flatten.length = e := by simp
        rw [e5]
        rw [List.length_map] at this
        exact Nat.le_trans (show _ ≤ 1000 by omega) (by decide)
      · have s2 := sm_new (o := .lst [c1 (BX.fill p)]) s1 h1
        have s3 := sm_new (o := .lst (List.replicate ((e : Int)).toNat [c1 (BX.fill p)]).flatten) s2 h2
        have s4 := sm_new (o := .lst (cutV (f.map c1) (some (e : Int)) none)) s3 h3
        refine k t4 _ (sm_new s4 h4) (.inr (s4.free h4)) ?_
        rw [upd_same]
        congr 2
        have e6 : cutV (f.map c1) (some (e : Int)) none = (f.drop e).map c1 := by
          unfold cutV
          rw [HT.sIx_none, HT.sIx_nat, List.length_map, Nat.min_eq_left (by omega), List.take_of_length_le (by rw [List.length_drop, List.length_map]; exact Nat.le_refl _), List.map_drop]
        have e7 : (List.replicate ((e : Int)).toNat [c1 (BX.fill p)]).flatten = (List.replicate e (BX.fill p)).map c1 := by
          rw [Int.toNat_natCast, List.map_replicate]
          clear hE
          exact rep_flatV e _
        rw [e6, e7]
        show _ = (List.replicate (skp p.whole (l + 1)) (BX.fill p) ++ f.drop (skp p.whole (l + 1))).map c1
        rw [hE, List.map_append]
abbrev s_edited : Stmt := top 35
theorem sc_edited : FnScope ["picture", "amount", "shape", "before", "behind", "is_below", "figures", "text", "found", "last", "signs", "lead", "point", "symbol", "sign"] ["picture", "amount"] (defScope s_edited) := ⟨rfl, rfl, rfl, by decide +kernel, rfl, by decide +kernel, by decide +kernel⟩
theorem set_map1 (l : List Nat) (j d : Nat) : (l.map c1).set j (c1 d) = (l.set j d).map c1 := by rw [List.map_set]
theorem cutV_join (l : List Nat) : (l.map fun c => [c]).flatten = l := by rw [← List.flatMap_def, List.flatMap_singleton']
theorem ok_edited {P : Program} {w : World} {K : PySem.W.Frag} {mg : Str → Option Value} {base : Heap} {f C : Addr} {fd : FuncData} (F : Fun K "edited" "edited" s_edited f fd) (T : Txt K mg C) (C_look_edited : Cal P w K mg base "look_edited" 8 ["picture"] (spLook C)) (C_before : CalM P w K mg base C "before" 2 ["self"] (spBefore C)) (C_figures_of : Cal P w K mg base "figures_of" 3 ["amount", "before", "behind"] (spFig K)) (C_unfolded : Cal P w K mg base "unfolded" 6 ["text"] spUnf) (C_is_suppressed : CalM P w K mg base C "is_suppressed" 1 ["self"] (spSupp C)) (C_floats : CalM P w K mg base C "floats" 1 ["self"] (spFloats C)) (C_whole_signs : Cal P w K mg base "whole_signs" 2 ["shape", "figures"] (spWhole C)) (C_with_blanks : Cal P w K mg base "with_blanks" 1 ["shape", "found", "last"] (spBlanks C)) (C_signed : Cal P w K mg base "signed" 1 ["symbol", "is_below"] spSigned) :
    FnOk P w K mg base CX0 9 f fd ["picture", "amount"] (spEdited K) := by
  obtain ⟨f_look_edited, fd_look_edited, G_look_edited, m_look_edited, k_look_edited, b_look_edited⟩ := C_look_edited.ex
  obtain ⟨f_before, fd_before, G_before, m_before, b_before⟩ := C_before.ex
  obtain ⟨f_figures_of, fd_figures_of, G_figures_of, m_figures_of, k_figures_of, b_figures_of⟩ := C_figures_of.ex
  obtain ⟨f_unfolded, fd_unfolded, G_unfolded, m_unfolded, k_unfolded, b_unfolded⟩ := C_unfolded.ex
  obtain ⟨f_is_suppressed, fd_is_suppressed, G_is_suppressed, m_is_suppressed, b_is_suppressed⟩ := C_is_suppressed.ex
  obtain ⟨f_floats, fd_floats, G_floats, m_floats, b_floats⟩ := C_floats.ex
  obtain ⟨f_whole_signs, fd_whole_signs, G_whole_signs, m_whole_signs, k_whole_signs, b_whole_signs⟩ := C_whole_signs.ex
  obtain ⟨f_with_blanks, fd_with_blanks, G_with_blanks, m_with_blanks, k_with_blanks, b_with_blanks⟩ := C_with_blanks.ex
  obtain ⟨f_signed, fd_signed, G_signed, m_signed, k_signed, b_signed⟩ := C_signed.ex
  refine F.ok sc_edited (fun vs H Q E h => ?_) (fun cdv A outer s H vs Q E hr h => ?_)
  · obtain ⟨p, a, u, rfl, hd, h5, hS, hu, k⟩ := h
    rfl
  · obtain ⟨p, a, u, rfl, hd, h5, hS, hu, k⟩ := h
    refine ⟨_, (pss_cons (ps_set (i := 2) sc_edited.nd rfl (Or.inl rfl) (pe_call G_look_edited (hr.mono (by decide)) (by rfl) m_look_edited k_look_edited b_look_edited .nil pass0 (pa_cons (pv 0) pa_nil)))
      (pss_cons (ps_par (i := 3) (j := 4) rfl sc_edited.nd rfl rfl (by decide) rfl rfl (pa_cons (pe_meth0 (pv 2) T.cl m_before G_before (hr.mono (by decide)) b_before .nil pass0) (pa_cons (pe_callB len_S (by rfl) T.len (by decide +kernel) (pa_cons (pe_fld (pv 2) rfl) pa_nil)) pa_nil)) (by rfl))
      (pss_cons (ps_asg (pe_call G_figures_of (hr.mono (by decide)) (by rfl) m_figures_of k_figures_of b_figures_of .nil pass0 (pa_cons (pv 1) (pa_cons (pv 3) (pa_cons (pv 4) pa_nil)))) (pg_tup rfl (pgs_cons (pg_name (i := 5) sc_edited.nd rfl (Or.inr rfl)) (pgs_cons (pg_name (i := 6) sc_edited.nd rfl (Or.inl rfl)) pgs_nil))))
      (pss_cons (ps_set (i := 7) sc_edited.nd rfl (Or.inl rfl) (pe_call G_unfolded (hr.mono (by decide)) (by rfl) m_unfolded k_unfolded b_unfolded .nil pass0 (pa_cons (pv 0) pa_nil)))
      (pss_cons (ps_if (PW.pt (pw_and (pt_val (pe_meth0 (pv 2) T.cl m_is_suppressed G_is_suppressed (hr.mono (by decide)) b_is_suppressed .nil pass0)) (pw_and (pt_not (pt_val (pe_meth0 (pv 2) T.cl m_floats G_floats (hr.mono (by decide)) b_floats .nil pass0))) (pw_and1 (pt_cmpR o_eqS (pe_m1 PySem.F.slot_str_strip PySem.F.type_str_strip m_strip (pv 6) (pe_txt (l := [48]) (by decide +kernel))) (pe_txt (l := []) (by decide +kernel)) (nomark _)))))) (pss_one (ps_ret (pe_ifExp (pt_cmpR o_eqS (pe_fld (pv 2) rfl) (pe_txt (l := [90]) (by decide +kernel)) (nomark _)) (pe_op o_mulS (pe_txt (l := [32]) (by decide +kernel)) (pe_callB len_S (by rfl) T.len (by decide +kernel) (pa_cons (pv 7) pa_nil))) (pe_m1 PySem.F.slot_str_join PySem.F.type_str_join m_join (pe_txt (l := []) (by decide +kernel)) (pe_lc (own := [("sign", 14)]) rfl sc_edited.nd (pi_str (pv 7)) (blkOk_by (N := ["picture", "amount", "shape", "before", "behind", "is_below", "figures", "text", "found", "last", "signs", "lead", "point", "symbol", "sign"]) (sc := defScope s_edited) (by decide +kernel)) (fun _ _ _ _ _ => (pg_name (i := 14) sc_edited.nd rfl (Or.inl rfl))) (fun _ _ _ _ _ => pts_nil) (fun _ _ _ _ _ => (pe_ifExp (pt_cmpR o_eqS (pv 14) (pe_txt (l := [46]) (by decide +kernel)) (nomark _)) (pe_txt (l := [46]) (by decide +kernel)) (pe_txt (l := [42]) (by decide +kernel))))))))) pss_nil)
      (pss_cons (ps_asg (pe_call G_whole_signs (hr.mono (by decide)) (by rfl) m_whole_signs k_whole_signs b_whole_signs .nil pass0 (pa_cons (pv 2) (pa_cons (pe_slice sl_S (pv 6) po_none (po_some (pv 3))) pa_nil))) (pg_tup rfl (pgs_cons (pg_name (i := 8) sc_edited.nd rfl (Or.inl rfl)) (pgs_cons (pg_name (i := 9) sc_edited.nd rfl (Or.inl rfl)) pgs_nil))))
      (pss_cons (ps_set (i := 10) sc_edited.nd rfl (Or.inl rfl) (pe_call G_with_blanks (hr.mono (by decide)) (by rfl) m_with_blanks k_with_blanks b_with_blanks .nil pass0 (pa_cons (pv 2) (pa_cons (pv 8) (pa_cons (pv 9) pa_nil)))))
      (pss_cons (ps_if (pt_val (pe_meth0 (pv 2) T.cl m_floats G_floats (hr.mono (by decide)) b_floats .nil pass0)) (pss_cons (ps_while PassesOwn.never (PW.pt (pw_and (pt_cmpR op_lt (pe_op op_add (pv 9) pe_int) (pe_callB call_len_seq (by rfl) T.len (by decide +kernel) (pa_cons (pv 10) pa_nil)) (nomark _)) (pw_and1 (pt_cmpR o_inC (pe_ix ix_C (pe_fld (pv 2) rfl) (pe_op op_add (pv 9) pe_int) (fun _ _ => rfl)) (pe_con' (by rfl) T.INSERTED) (by rfl))))) (pss_one (ps_aug (i := 9) sc_edited.nd rfl (Or.inl rfl) pe_int ip_add)))
      (pss_one (ps_asg (pe_call G_signed (hr.mono (by decide)) (by rfl) m_signed k_signed b_signed .nil pass0 (pa_cons (pe_fld (pv 2) rfl) (pa_cons (pv 5) pa_nil))) (pg_sub (pv 10) (pv 9) set_list)))) pss_nil)
      (pss_cons (ps_set (i := 11) sc_edited.nd rfl (Or.inl rfl) (pe_m1 PySem.F.slot_str_join PySem.F.type_str_join m_join (pe_txt (l := []) (by decide +kernel)) (pe_lc (own := [("symbol", 13)]) rfl sc_edited.nd (pi_str (pe_fld (pv 2) rfl)) (blkOk_by (N := ["picture", "amount", "shape", "before", "behind", "is_below", "figures", "text", "found", "last", "signs", "lead", "point", "symbol", "sign"]) (sc := defScope s_edited) (by decide +kernel)) (fun _ _ _ _ _ => (pg_name (i := 13) sc_edited.nd rfl (Or.inl rfl))) (fun _ _ _ _ _ => pts_nil) (fun _ _ _ _ _ => (pe_call G_signed (hr.mono (by decide)) (by rfl) m_signed k_signed b_signed .nil pass0 (pa_cons (pv 13) (pa_cons (pv 5) pa_nil)))))))
      (pss_cons (ps_set (i := 12) sc_edited.nd rfl (Or.inl rfl) (pe_ifExp (pt_cmpR op_gt (pv 4) pe_int (nomark _)) (pe_op o_addS (pe_txt (l := [46]) (by decide +kernel)) (pe_slice sl_S (pv 6) (po_some (pv 3)) po_none)) (pe_txt (l := []) (by decide +kernel))))
      (pss_one (ps_ret (pe_op o_addS (pe_op o_addS (pe_op o_addS (pv 11) (pe_m1 PySem.F.slot_str_join PySem.F.type_str_join m_join (pe_txt (l := []) (by decide +kernel)) (pv 10))) (pv 12)) (pe_call G_signed (hr.mono (by decide)) (by rfl) m_signed k_signed b_signed .nil pass0 (pa_cons (pe_fld (pv 2) rfl) (pa_cons (pv 5) pa_nil)))))))))))))))), ?_⟩
    have ll := line_len hd
    have lw := hd.ln
    have l1 := lead_len hd
    have l2 := tail_len hd
    have l3 := br_len hd
    have bp := bef_pos hd
    have hdl := dgs_len (whl p) u.natAbs
    -- the shape
    refine ⟨_, rfl, p, rfl, hd, fun ash H1 s1 sh1 => ?_⟩
    obtain ⟨dx, ha⟩ := id sh1
    refine ⟨_, rfl, ash, dx, _, rfl, ha, sh_before p, ash, p, rfl, sh1, hd.pl, lw, fun H2 s2 => ?_⟩
    obtain ⟨dx2, ha2⟩ := s2.sh sh1
    refine ⟨_, rfl, ash, C, dx2, _, _, rfl, ha2, T.cl, T.nB, sh_broken p, p.broken, rfl, by omega, _, _, rfl, ?_⟩
    have sA := s1.trans s2
    refine ⟨_, rfl, _, rfl, _, rfl, a, u, bef p, beh p, rfl, sA.tup hS, hu, by omega, h5, fun t H3 s3 ht => ?_⟩
    have sB := sA.trans s3
    have sh3 := s3.sh (s2.sh sh1)
    generalize hds : dgs (bef p + beh p) u.natAbs = ds at ht
    have hdl : ds.length = bef p + beh p := by rw [← hds]; exact hdl
    have hb3 : beh p ≤ 3 := l3
    generalize hbl : decide (u < 0) = bl at ht
    have kk : ∀ H', Same H H' → Q (tS (edT p ds bl)) H' := fun H' s => by
      have := k H' s
      unfold tx at this
      rw [hds, hbl] at this
      exact this
    refine ⟨t, _, rfl, SqT.of ht, rfl, _, _, rfl, _, _, rfl, rfl, ?_⟩
    refine normC (R := fun σ2 H2 => _) [some (tS (line p)), some (.ref a), some (.ref ash), some (.int (bef p)), some (.int (beh p)), some (.bl bl), some (tS ds), none, none, none, none, none, none, none, none] rfl ?_
    refine ⟨_, rfl, p, rfl, hd, fun H4 s4 => ?_⟩
    have sC := sB.trans s4
    have sh4 := s4.sh sh3
    dsimp only
    refine normS [some (tS (line p)), some (.ref a), some (.ref ash), some (.int (bef p)), some (.int (beh p)), some (.bl bl), some (tS ds), some (tS (line p)), none, none, none, none, none, none, none] rfl ?_
    refine stepC (cutIf (decide (bare p ∧ zeros ds)) (fun H5 s5 => ?_) (fun Q' g => ?_))
    rotate_left
    · have g0 := g _ (Same.refl _)
      obtain ⟨dx4, ha4⟩ := id sh4
      refine ⟨_, rfl, ash, dx4, _, rfl, ha4, sh_supp p, ash, p, rfl, sh4, by omega, _, rfl, ?_⟩
      refine iteC (fun h => ?_) (fun h => ?_)
      · have h1 := ndT h
        refine ⟨_, rfl, ash, dx4, _, rfl, ha4, sh_floats p, ash, p, rfl, sh4, _, rfl, ?_⟩
        refine iteC (fun h2 => ?_) (fun h2 => ?_)
        · have h2 := ndT h2
          refine ⟨_, rfl, ⟨_, rfl⟩, ds, [48], rfl, rfl, by omega, _, _, rfl, rfl, _, rfl, ?_⟩
          have e : decide (stripL ds [48] = []) = decide (bare p ∧ zeros ds) := by
            by_cases hz : zeros ds
            · rw [decide_eq_true (show bare p ∧ zeros ds from ⟨⟨h1, h2⟩, hz⟩)]
              exact decide_eq_true (stripL_nil fun c m => by rw [hz c m]; simp)
            · have e2 : decide (bare p ∧ zeros ds) = false := decide_eq_false (fun z => hz z.2)
              rw [e2]
              refine decide_eq_false fun z => hz fun c m => ?_
              have := stripL_all z c m
              simpa using this
          rw [e]
          exact g0
        · have h2 := ndF h2
          rw [decide_eq_false (fun z => z.1.2 h2)] at g0
          exact g0
      · have h1 := ndF h
        rw [decide_eq_false (fun z => z.1.1 h1)] at g0
        exact g0
    have sD := sC.trans s5
    have sh5 := s5.sh sh4
    refine iteC (fun h => ?_) (fun h => ?_)
    · -- no figure at all
      have hz := of_decide_eq_true h
      have kb : ∀ H', Same H H' → Q (tS (blankT p)) H' := fun H' s => by
        have := kk H' s
        unfold edT at this
        rw [if_pos hz] at this
        exact this
      unfold blankT at kb
      obtain ⟨dx5, ha5⟩ := id sh5
      refine ⟨_, rfl, ash, C, dx5, _, _, rfl, ha5, T.cl, T.nF, sh_first p, _, _, rfl, rfl, _, rfl, ?_⟩
      refine iteC (fun h2 => ?_) (fun h2 => ?_)
      · have : p.first = 90 := by have := of_decide_eq_true h2; simpa using this
        rw [if_pos this] at kb
        refine ⟨_, rfl, line p, rfl, by omega, [32], (line p).length, rfl, rfl, by show 1 ≤ 100; decide, by omega, ?_⟩
        rw [rep_flat]
        exact kb _ sD
      · have : ¬ p.first = 90 := fun z => of_decide_eq_false h2 (by rw [z])
        rw [if_neg this] at kb
        refine ⟨⟨_, rfl⟩, _, rfl, _, rfl, fun D hD => ?_⟩
        refine lc_str (l := line p) (fun i H' => H' D = some (.lst (((((line p).take i).map fun c => if c = 46 then 46 else 42).map fun c => [c]).map fun z => V.str (S z))) ∧ Same H5 H') ⟨upd_same, sm_new (Same.refl _) hD⟩ ?_ ?_
        · rintro i c H' hc ⟨h1, s⟩
          have hi : i < (line p).length := (List.getElem?_eq_some_iff.mp hc).1
          have htk : (line p).take (i + 1) = (line p).take i ++ [c] := by rw [List.take_add_one, hc]; rfl
          have hsz : (((((line p).take i).map fun c => if c = 46 then 46 else 42).map fun c => [c]).map fun z => V.str (S z)).length < sizeLine := by
            rw [List.length_map, List.length_map, List.length_map, List.length_take]
            exact Nat.lt_of_le_of_lt (show _ ≤ 1000 by omega) (by decide)
          refine ⟨rfl, ?_⟩
          refine ⟨_, rfl, _, _, rfl, rfl, _, rfl, ?_⟩
          refine iteC (fun h2 => ?_) (fun h2 => ?_)
          · have e46 : c = 46 := by have := of_decide_eq_true h2; simpa using this
            refine ⟨_, h1, hsz, ?_, sm_mut s hD⟩
            rw [upd_same, htk, List.map_append, List.map_append, List.map_append]
            simp [e46]
          · have e46 : ¬ c = 46 := fun z => of_decide_eq_false h2 (by rw [z])
            refine ⟨_, h1, hsz, ?_, sm_mut s hD⟩
            rw [upd_same, htk, List.map_append, List.map_append, List.map_append]
            simp [e46]
        · rintro H' ⟨h1, s⟩
          rw [List.take_of_length_le (Nat.le_refl _)] at h1
          refine ⟨D, _, rfl, rfl, SqL.of h1, by rw [cutV_join, List.length_map]; omega, ?_⟩
          rw [cutV_join]
          exact kb _ (sD.trans s)
    have hnz := of_decide_eq_false h
    have kf : ∀ H', Same H H' → Q (tS (leadT p bl ++ sgns p (ds.take (bef p)) bl ++ (if p.broken = [] then [] else 46 :: ds.drop (bef p)) ++ sgn p.tail bl)) H' := fun H' s => by
      have := kk H' s
      unfold edT at this
      rw [if_neg hnz] at this
      exact this
    -- the whole part
    have eT : cutL ds none (some (bef p : Int)) = ds.take (bef p) := cutL_take ds (bef p)
    refine ⟨_, rfl, _, rfl, _, rfl, _, rfl, ds, rfl, by omega, ?_⟩
    rw [eT]
    have hdt : (ds.take (bef p)).length = bef p := by rw [List.length_take]; omega
    refine ⟨ash, p, ds.take (bef p), rfl, sh5, hd, hdt, fun t2 f H6 s6 hfn ht2 hf2 => ?_⟩
    have sE := sD.trans s6
    have sh6 := s6.sh sh5
    refine ⟨t2, _, rfl, SqT.of ht2, rfl, _, _, rfl, _, _, rfl, rfl, ?_⟩
    generalize hdw : ds.take (bef p) = dw at *
    refine normC (R := fun σ2 H2 => _) [some (tS (line p)), some (.ref a), some (.ref ash), some (.int (bef p)), some (.int (beh p)), some (.bl bl), some (tS ds), some (tS (line p)), some (.ref f), some (lastV (last p dw)), none, none, none, none, none] rfl ?_
    refine ⟨_, rfl, _, rfl, _, rfl, ash, f, p, fnd (decide (p.first ∈ FLT)) 0 p.whole dw, last p dw, rfl, sh6, hf2, fnd_len _ _ _ _, lw, last_lt p dw, fun r H7 s7 hr hlst => ?_⟩
    have sF := sE.trans s7
    have sh7 := s7.sh sh6
    have hr5 : H5 r = none := by
      rcases hr with z | z
      · rw [z]; exact hfn
      · exact s6.free z
    have s57 := s6.trans s7
    have bl1 : (blk p (fnd (decide (p.first ∈ FLT)) 0 p.whole dw) (last p dw)).length = p.whole.length := blk_len p _ _ (fnd_len _ _ _ _) (last_lt p dw)
    dsimp only
    refine normS [some (tS (line p)), some (.ref a), some (.ref ash), some (.int (bef p)), some (.int (beh p)), some (.bl bl), some (tS ds), some (tS (line p)), some (.ref f), some (lastV (last p dw)), some (.ref r), none, none, none, none] rfl ?_
    refine stepC (cutSt (fun σ' H' => (∃ lv : V, σ' = [some (tS (line p)), some (.ref a), some (.ref ash), some (.int (bef p)), some (.int (beh p)), some (.bl bl), some (tS ds), some (tS (line p)), some (.ref f), some lv, some (.ref r), none, none, none, none]) ∧ Same H5 H' ∧ H' r = some (.lst ((sgns p dw bl).map c1))) (fun σ' H8 h8 => ?_) (fun nx' g => ?_))
    rotate_left
    · obtain ⟨dx7, ha7⟩ := id sh7
      refine ⟨_, rfl, ash, dx7, _, rfl, ha7, sh_floats p, ash, p, rfl, sh7, _, rfl, ?_⟩
      refine iteC (fun hfl => ?_) (fun hfl => ?_)
      · have hF := of_decide_eq_true hfl
        -- a floating row has a last blank
        obtain ⟨L, hL⟩ : ∃ L, last p dw = some L := by
          obtain ⟨w0, ew⟩ := hd.hd
          unfold last
          rw [hfl, ew, lst_cons, if_neg hd.fins, if_pos ⟨rfl, rfl⟩]
          exact lst_some _ _ _ _ _ _
        have hLl := last_lt p dw L hL
        rw [hL] at hlst bl1 ⊢
        have hs1 := skp_le p.whole (L + 1) hLl
        have hs2 := skp_ge p.whole (L + 1)
        rw [hfl] at hlst bl1
        dsimp only
        refine stepC (cutWhile (fun σ' H' => σ' = [some (tS (line p)), some (.ref a), some (.ref ash), some (.int (bef p)), some (.int (beh p)), some (.bl bl), some (tS ds), some (tS (line p)), some (.ref f), some (.int (((skp p.whole (L + 1) - 1 : Nat) : Nat) : Int)), some (.ref r), none, none, none, none] ∧ H' = H7) (fun σ' H' h => ?_) (fun nx2 g2 => ?_))
        rotate_left
        · refine ⟨fun m σ' H' => ∃ e : Nat, m = p.whole.length - e ∧ e < p.whole.length ∧ skp p.whole (e + 1) = skp p.whole (L + 1) ∧ σ' = [some (tS (line p)), some (.ref a), some (.ref ash), some (.int (bef p)), some (.int (beh p)), some (.bl bl), some (tS ds), some (tS (line p)), some (.ref f), some (.int e), some (.ref r), none, none, none, none] ∧ H' = H7, ⟨_, L, rfl, hLl, rfl, rfl, rfl⟩, ?_⟩
          rintro m σ' H' ⟨e, rfl, he, hs, rfl, rfl⟩
          refine ⟨_, rfl, _, _, rfl, rfl, _, rfl, r, _, rfl, .inl (SqL.of hlst), _, _, rfl, rfl, _, rfl, ?_⟩
          refine iteC (fun h => ?_) (fun h => ?_)
          · have h := of_decide_eq_true h
            rw [List.length_map, bl1] at h
            have hlt : e + 1 < p.whole.length := by omega
            obtain ⟨c, hc⟩ : ∃ c, p.whole[e + 1]? = some c := ⟨_, List.getElem?_eq_getElem hlt⟩
            have hstep := skp_step p.whole (e + 1) c hc
            refine ⟨_, rfl, ash, C, dx7, _, _, rfl, ha7, T.cl, T.nW, sh_whole p, _, rfl, _, _, rfl, rfl, p.whole, e + 1, c, rfl, rfl, by omega, hc, _, _, rfl, rfl, _, rfl, ?_⟩
            refine iteC (fun h2 => ?_) (fun h2 => ?_)
            · have h2 := of_decide_eq_true h2
              rw [if_pos h2] at hstep
              refine ⟨fun σ2 H2 => ∃ e' : Nat, e' = e + 1 ∧ skp p.whole (e' + 1) = skp p.whole (L + 1) ∧ σ2 = [some (tS (line p)), some (.ref a), some (.ref ash), some (.int (bef p)), some (.int (beh p)), some (.bl bl), some (tS ds), some (tS (line p)), some (.ref f), some (.int e'), some (.ref r), none, none, none, none] ∧ H2 = H', ?_, ?_⟩
              · rintro σ2 H2 ⟨e', rfl, h3, rfl, rfl⟩
                exact ⟨_, by omega, e + 1, rfl, hlt, h3, rfl, rfl⟩
              · exact ⟨_, rfl, _, _, rfl, rfl, e + 1, rfl, by rw [← hstep]; exact hs, rfl, rfl⟩
            · have h2 := of_decide_eq_false h2
              rw [if_neg h2] at hstep
              exact g2 _ _ ⟨by rw [← hs, hstep]; rfl, rfl⟩
          · have h := of_decide_eq_false h
            rw [List.length_map, bl1] at h
            exact g2 _ _ ⟨by rw [← hs, skp_end _ _ (by omega)]; rfl, rfl⟩
        obtain ⟨rfl, rfl⟩ := h
        obtain ⟨d, ed, hdf⟩ := sgn_float hF bl
        refine ⟨_, rfl, ash, C, dx7, _, _, rfl, ha7, T.cl, T.nF, sh_first p, _, rfl, [p.first], bl, rfl, fun H8 s8 => ?_⟩
        rw [ed]
        refine ⟨_, rfl, _, rfl, r, _, _, skp p.whole (L + 1) - 1, rfl, rfl, s8 _ _ hlst, ?_, ?_⟩
        · unfold ixN
          rw [if_pos (by omega), if_pos (by rw [List.length_map, bl1]; omega), Int.toNat_natCast]
        · refine g _ _ ⟨⟨_, rfl⟩, sm_mut (s57.trans s8) hr5, ?_⟩
          rw [upd_same]
          have e9 : sgns p dw bl = (blk p (fnd true 0 p.whole dw) (some L)).set (skp p.whole (L + 1) - 1) d := by
            unfold sgns
            rw [if_pos hF, hL, ed]
            rfl
          rw [e9]
          congr 2
          exact set_map1 _ _ _
      · have hF := of_decide_eq_false hfl
        refine g _ _ ⟨⟨_, rfl⟩, s57, ?_⟩
        have e9 : sgns p dw bl = blk p (fnd (decide (p.first ∈ FLT)) 0 p.whole dw) (last p dw) := by
          unfold sgns
          rw [if_neg hF, hfl]
        rw [e9]
        exact hlst
    obtain ⟨⟨lv, rfl⟩, s58, hr8⟩ := h8
    have sG := sD.trans s58
    have sh8 := s58.sh sh5
    have hlt0 : (leadT p bl).length = p.lead.length := leadT_len p bl
    -- the lead
    dsimp only
    refine stepC (cutSetN (tS (leadT p bl)) [some (tS (line p)), some (.ref a), some (.ref ash), some (.int (bef p)), some (.int (beh p)), some (.bl bl), some (tS ds), some (tS (line p)), some (.ref f), some lv, some (.ref r), some (tS (leadT p bl)), none, none, none] rfl (fun H9 s9 => ?_) (fun Q' g => ?_))
    rotate_left
    · obtain ⟨dx8, ha8⟩ := id sh8
      refine ⟨⟨_, rfl⟩, _, rfl, ash, C, dx8, _, _, rfl, ha8, T.cl, T.nL, sh_lead p, _, rfl, fun D hD => ?_⟩
      refine lc_str (l := p.lead) (fun i H' => H' D = some (.lst (((p.lead.take i).map fun c => sgn [c] bl).map fun z => V.str (S z))) ∧ Same H8 H') ⟨upd_same, sm_new (Same.refl _) hD⟩ ?_ ?_
      · rintro i c H' hc ⟨h1, s⟩
        have hi : i < p.lead.length := (List.getElem?_eq_some_iff.mp hc).1
        have htk : p.lead.take (i + 1) = p.lead.take i ++ [c] := by rw [List.take_add_one, hc]; rfl
        refine ⟨rfl, ?_⟩
        refine ⟨_, rfl, _, rfl, [c], bl, rfl, fun H10 s10 => ?_⟩
        refine ⟨_, s10 _ _ h1, ?_, ?_, sm_mut (s.trans s10) hD⟩
        · rw [List.length_map, List.length_map, List.length_take]
          exact Nat.lt_of_le_of_lt (show _ ≤ 1000 by omega) (by decide)
        · rw [upd_same, htk, List.map_append, List.map_append]
          rfl
      · rintro H' ⟨h1, s⟩
        rw [List.take_of_length_le (Nat.le_refl _)] at h1
        have e9 : (p.lead.map fun c => sgn [c] bl).flatten = leadT p bl := by unfold leadT; rw [List.flatMap_def]
        refine ⟨D, _, rfl, rfl, SqL.of h1, by rw [e9]; omega, ?_⟩
        rw [e9]
        exact g _ s
    have sH := sG.trans s9
    have sh9 := s9.sh sh8
    have hr9 := s9 _ _ hr8
    -- the point
    dsimp only
    refine stepC (cutSetN (tS (if p.broken = [] then [] else 46 :: ds.drop (bef p))) [some (tS (line p)), some (.ref a), some (.ref ash), some (.int (bef p)), some (.int (beh p)), some (.bl bl), some (tS ds), some (tS (line p)), some (.ref f), some lv, some (.ref r), some (tS (leadT p bl)), some (tS (if p.broken = [] then [] else 46 :: ds.drop (bef p))), none, none] rfl (fun H10 s10 => ?_) (fun Q' g => ?_))
    rotate_left
    · have g0 := g _ (Same.refl _)
      refine ⟨_, rfl, _, _, rfl, rfl, _, rfl, ?_⟩
      refine iteC (fun h => ?_) (fun h => ?_)
      · have h := of_decide_eq_true h
        have hb : p.broken ≠ [] := fun z => by unfold beh at h; rw [z] at h; simp at h
        rw [if_neg hb] at g0
        refine ⟨_, rfl, _, rfl, _, rfl, ds, rfl, by omega, [46], _, rfl, rfl, ?_, ?_⟩
        · have : cutL ds (some (bef p : Int)) none = ds.drop (bef p) := cutL_drop ds (bef p)
          rw [this, List.length_drop]
          show 1 + _ ≤ 1000
          omega
        · have : cutL ds (some (bef p : Int)) none = ds.drop (bef p) := cutL_drop ds (bef p)
          rw [this]
          exact g0
      · have h := of_decide_eq_false h
        have hb : p.broken = [] := List.eq_nil_of_length_eq_zero (by unfold beh at h; omega)
        rw [if_pos hb] at g0
        exact g0
    have sI := sH.trans s10
    obtain ⟨dx10, ha10⟩ := s10.sh sh9
    have hr10 := s10 _ _ hr9
    have hsl := sgns_len p dw bl
    have hpl : (if p.broken = [] then [] else 46 :: ds.drop (bef p)).length ≤ 20 := by
      split
      · simp
      · rw [List.length_cons, List.length_drop]; omega
    refine ⟨_, rfl, ⟨_, rfl⟩, _, rfl, r, (sgns p dw bl).map fun c => [c], rfl, rfl, SqL.of (by rw [List.map_map]; exact hr10), by rw [cutV_join]; omega, ?_⟩
    rw [cutV_join]
    refine ⟨_, _, rfl, rfl, by omega, _, rfl, _, _, rfl, rfl, by rw [List.length_append]; omega, ?_⟩
    refine ⟨_, rfl, ash, C, dx10, _, _, rfl, ha10, T.cl, T.nT, sh_tail p, _, rfl, p.tail, bl, rfl, fun H11 s11 => ?_⟩
    have htl := sgn_tail_len hd bl
    refine ⟨_, _, rfl, rfl, by rw [List.length_append, List.length_append]; omega, ?_⟩
    exact kf H11 (sI.trans s11)
abbrev s_read_edited : Stmt := top 36
theorem sc_read_edited : FnScope ["picture", "text", "shape", "behind", "found", "symbols", "begin", "at", "symbol", "sign", "units"] ["picture", "text"] (defScope s_read_edited) := ⟨rfl, rfl, rfl, by decide +kernel, rfl, by decide +kernel, by decide +kernel⟩
def WRe (H : Hp) (p : BX.P) (text : BX.T) (ash : Addr) (i : Nat) (σ : L2.St) (H' : Hp) : Prop := ∃ (acc : BX.T) (y n d : Option V), i ≤ (syms p).length ∧ acc.length ≤ i ∧
  σ = [some (tS (line p)), some (tS text), some (.ref ash), some (.int (beh p)), some (tS acc), some (tS (syms p)), some (.int p.lead.length), y, n, d, none] ∧ Same H H' ∧
  acc ++ rdl (decide (p.first ∈ FLT)) (text.drop p.lead.length) i ((syms p).drop i) = rdT p text
theorem tx_len {p : BX.P} (hd : Dr p) (u : Int) : (tx p u).length ≤ 100 := by
  have ll := line_len hd
  have l1 := lead_len hd
  have l2 := tail_len hd
  have l3 := br_len hd
  have lw := hd.ln
  have bp := bef_pos hd
  unfold tx edT
  split
  · unfold blankT
    split
    · rw [List.length_replicate]; omega
    · rw [List.length_map]; omega
  · rw [List.length_append, List.length_append, List.length_append, leadT_len, sgns_len, sgn_tail_len hd]
    have : (if p.broken = [] then [] else 46 :: (dgs (bef p + beh p) u.natAbs).drop (bef p)).length ≤ 20 := by
      split
      · simp
      · rw [List.length_cons, List.length_drop, dgs_len]
        have : beh p ≤ 3 := l3
        omega
    omega
theorem ok_read_edited {P : Program} {w : World} {K : PySem.W.Frag} {mg : Str → Option Value} {base : Heap} {f C : Addr} {fd : FuncData} (F : Fun K "read_edited" "read_edited" s_read_edited f fd) (T : Txt K mg C) (C_look_edited : Cal P w K mg base "look_edited" 8 ["picture"] (spLook C)) (C_floats : CalM P w K mg base C "floats" 1 ["self"] (spFloats C)) (C_edited : Cal P w K mg base "edited" 9 ["picture", "amount"] (spEdited K)) :
    FnOk P w K mg base CX0 10 f fd ["picture", "text"] spRead := by
  obtain ⟨f_look_edited, fd_look_edited, G_look_edited, m_look_edited, k_look_edited, b_look_edited⟩ := C_look_edited.ex
  obtain ⟨f_floats, fd_floats, G_floats, m_floats, b_floats⟩ := C_floats.ex
  obtain ⟨f_edited, fd_edited, G_edited, m_edited, k_edited, b_edited⟩ := C_edited.ex
  refine F.ok sc_read_edited (fun vs H Q E h => ?_) (fun cdv A outer s H vs Q E hr h => ?_)
  · obtain ⟨p, u, rfl, hd, h5, hu, k⟩ := h
    rfl
  · obtain ⟨p, u, rfl, hd, h5, hu, k⟩ := h
    refine ⟨_, (pss_cons (ps_set (i := 2) sc_read_edited.nd rfl (Or.inl rfl) (pe_call G_look_edited (hr.mono (by decide)) (by rfl) m_look_edited k_look_edited b_look_edited .nil pass0 (pa_cons (pv 0) pa_nil)))
      (pss_cons (ps_par (i := 3) (j := 4) rfl sc_read_edited.nd rfl rfl (by decide) rfl rfl (pa_cons (pe_callB len_S (by rfl) T.len (by decide +kernel) (pa_cons (pe_fld (pv 2) rfl) pa_nil)) (pa_cons (pe_txt (l := []) (by decide +kernel)) pa_nil)) (by rfl))
      (pss_cons (ps_set (i := 5) sc_read_edited.nd rfl (Or.inl rfl) (pe_op o_addS (pe_fld (pv 2) rfl) (pe_ifExp (pt_cmpR op_gt (pv 3) pe_int (nomark _)) (pe_op o_addS (pe_txt (l := [46]) (by decide +kernel)) (pe_fld (pv 2) rfl)) (pe_txt (l := []) (by decide +kernel)))))
      (pss_cons (ps_set (i := 6) sc_read_edited.nd rfl (Or.inl rfl) (pe_callB len_S (by rfl) T.len (by decide +kernel) (pa_cons (pe_fld (pv 2) rfl) pa_nil)))
      (pss_cons (ps_for PassesOwn.never rfl (pi_enumS (by rfl) T.enumerate (pa_cons (pv 5) pa_nil)) (pg_tup rfl (pgs_cons (pg_name (i := 7) sc_read_edited.nd rfl (Or.inl rfl)) (pgs_cons (pg_name (i := 8) sc_read_edited.nd rfl (Or.inl rfl)) pgs_nil))) (pss_cons (ps_set (i := 9) sc_read_edited.nd rfl (Or.inl rfl) (pe_slice sl_S (pv 1) (po_some (pe_op op_add (pv 6) (pv 7))) (po_some (pe_op op_add (pe_op op_add (pv 6) (pv 7)) pe_int))))
      (pss_one (ps_if (PW.pt (pw_and (pt_cmpR o_ninC (pv 8) (pe_con' (by rfl) T.INSERTED) (by rfl)) (pw_and (pt_cmpR o_neS (pv 8) (pe_txt (l := [46]) (by decide +kernel)) (nomark _)) (pw_and1 (pt_not (PW.pt (pw_and (pt_cmpR o_eqI (pv 7) pe_int (nomark _)) (pw_and1 (pt_val (pe_meth0 (pv 2) T.cl m_floats G_floats (hr.mono (by decide)) b_floats .nil pass0)))))))))) (pss_one (ps_aug (i := 4) sc_read_edited.nd rfl (Or.inl rfl) (pe_ifExp (PW.pt (pw_and (pt_cmpR o_neS (pv 9) (pe_txt (l := []) (by decide +kernel)) (nomark _)) (pw_and1 (pt_cmpR o_inC (pv 9) (pe_con' (by rfl) T.FIGURES) (by rfl))))) (pv 9) (pe_txt (l := [48]) (by decide +kernel))) i_addS)) pss_nil))))
      (pss_cons (ps_for PassesOwn.never rfl (pi_tup (pe_tup (pa_cons (pe_callTy call_intS (by rfl) T.int (by decide +kernel) (pa_cons (pv 4) pa_nil)) (pa_cons (pe_un un_neg (pe_callTy call_intS (by rfl) T.int (by decide +kernel) (pa_cons (pv 4) pa_nil))) pa_nil)))) (pg_name (i := 10) sc_read_edited.nd rfl (Or.inl rfl)) (pss_one (ps_if (pt_cmpR o_eqS (pe_call G_edited (hr.mono (by decide)) (by rfl) m_edited k_edited b_edited .nil pass0 (pa_cons (pv 0) (pa_cons (pe_tup (pa_cons (pv 10) (pa_cons (pv 3) pa_nil))) pa_nil))) (pv 1) (nomark _)) (pss_one (ps_ret (pe_tup (pa_cons (pv 10) (pa_cons (pv 3) pa_nil))))) pss_nil)))
      (pss_one ps_never))))))), ?_⟩
    have ll := line_len hd
    have lw := hd.ln
    have l1 := lead_len hd
    have l3 := br_len hd
    have bp := bef_pos hd
    have ltx := tx_len hd u
    refine ⟨_, rfl, p, rfl, hd, fun ash H1 s1 sh1 => ?_⟩
    obtain ⟨dx, ha⟩ := id sh1
    refine ⟨_, rfl, ash, C, dx, _, _, rfl, ha, T.cl, T.nB, sh_broken p, p.broken, rfl, by omega, _, _, rfl, ?_⟩
    dsimp only
    have lsy : (syms p).length ≤ 48 := by
      unfold syms
      have := dot_len hd
      rw [List.length_append]; omega
    refine stepC (cutSetN (tS (syms p)) [some (tS (line p)), some (tS (tx p u)), some (.ref ash), some (.int (beh p)), some (tS []), some (tS (syms p)), none, none, none, none, none] rfl (fun H2 s2 => ?_) (fun Q' g => ?_))
    rotate_left
    · have g0 := g _ (Same.refl _)
      unfold syms dot at g0
      refine ⟨_, rfl, ash, C, dx, _, _, rfl, ha, T.cl, T.nW, sh_whole p, _, rfl, _, _, rfl, rfl, _, rfl, ?_⟩
      refine iteC (fun h => ?_) (fun h => ?_)
      · have h := of_decide_eq_true h
        have hb : p.broken ≠ [] := fun z => by rw [z] at h; simp at h
        rw [if_neg hb] at g0
        refine ⟨_, rfl, ash, C, dx, _, _, rfl, ha, T.cl, T.nB, sh_broken p, [46], _, rfl, rfl, by show 1 + _ ≤ 1000; omega, _, _, rfl, rfl, ?_, g0⟩
        show _ + (p.broken.length + 1) ≤ 1000
        omega
      · have h := of_decide_eq_false h
        have hb : p.broken = [] := List.eq_nil_of_length_eq_zero (by omega)
        rw [if_pos hb] at g0
        refine ⟨_, _, rfl, rfl, ?_, g0⟩
        show _ + 0 ≤ 1000
        omega
    have sA := s1.trans s2
    have sh2 := s2.sh sh1
    obtain ⟨dx2, ha2⟩ := id sh2
    refine ⟨_, rfl, ash, C, dx2, _, _, rfl, ha2, T.cl, T.nL, sh_lead p, p.lead, rfl, by omega, ?_⟩
    dsimp only
    refine normS [some (tS (line p)), some (tS (tx p u)), some (.ref ash), some (.int (beh p)), some (tS []), some (tS (syms p)), some (.int p.lead.length), none, none, none, none] rfl ?_
    generalize htext : tx p u = text at *
    refine ⟨_, rfl, _, rfl, for_enumS (l := syms p) (WRe H2 p text ash) ⟨[], none, none, none, Nat.zero_le _, Nat.le_refl _, rfl, Same.refl _, rfl⟩ ?_ ?_⟩
    · rintro i c σ H3 t hc ⟨acc, y, n, d, hi, hal, rfl, s3, e1⟩ ht
      have hlt : i < (syms p).length := (List.getElem?_eq_some_iff.mp hc).1
      have hdrop : (syms p).drop i = c :: (syms p).drop (i + 1) := by rw [List.drop_eq_getElem_cons hlt, (List.getElem?_eq_some_iff.mp hc).2]
      rw [hdrop, rdl_cons] at e1
      have s4 := sm_new (o := .tup [V.int (i : Int), tS [c]]) s3 ht
      refine ⟨t, _, rfl, SqT.of upd_same, rfl, _, _, rfl, _, _, rfl, rfl, ?_⟩
      generalize upd H3 t (.tup [V.int (i : Int), tS [c]]) = H4 at s4 ⊢
      refine ⟨_, rfl, _, rfl, _, rfl, _, _, rfl, rfl, _, rfl, _, rfl, _, rfl, _, _, rfl, rfl, _, _, rfl, rfl, _, rfl, text, rfl, by omega, ?_⟩
      have eS : cutL text (some ((p.lead.length : Int) + (i : Int))) (some ((p.lead.length : Int) + (i : Int) + 1)) = (match (text.drop p.lead.length)[i]? with | some s => [s] | none => []) := by
        rw [← Int.natCast_add, show ((p.lead.length + i : Nat) : Int) + 1 = ((p.lead.length + i + 1 : Nat) : Int) by omega, cutL_mid, Nat.add_sub_cancel_left, List.getElem?_drop]
        cases hq : text[p.lead.length + i]? with
        | none =>
          have := List.getElem?_eq_none_iff.mp hq
          rw [List.drop_eq_nil_of_le this]; rfl
        | some s =>
          have h1 := (List.getElem?_eq_some_iff.mp hq).1
          rw [List.drop_eq_getElem_cons h1, (List.getElem?_eq_some_iff.mp hq).2]; rfl
      have eS' : V.str (S (cutL text (some ((fun i j => i + j) (p.lead.length : Int) (i : Int))) (some ((fun i j => i + j) ((fun i j => i + j) (p.lead.length : Int) (i : Int)) 1)))) = tS (match (text.drop p.lead.length)[i]? with | some s => [s] | none => []) := congrArg (fun z => V.str (S z)) eS
      generalize hsg : (match (text.drop p.lead.length)[i]? with | some s => [s] | none => []) = sg at eS
      rw [show cutL text (some ((p.lead.length : Int) + (i : Int))) (some ((p.lead.length : Int) + (i : Int) + 1)) = sg from eS]
      dsimp only
      refine normS [some (tS (line p)), some (tS text), some (.ref ash), some (.int (beh p)), some (tS acc), some (tS (syms p)), some (.int p.lead.length), some (.int i), some (tS [c]), some (tS sg), none] rfl ?_
      refine cutIf (decide (c ∉ INS ∧ c ≠ 46 ∧ ¬ (i = 0 ∧ decide (p.first ∈ FLT) = true))) (fun H5 s5 => ?_) (fun Q' g => ?_)
      rotate_left
      · have g0 := g _ (Same.refl _)
        obtain ⟨dx4, ha4⟩ := s4.sh sh2
        refine ⟨_, rfl, c, INS, rfl, rfl, _, rfl, ?_⟩
        refine iteC (fun h => ?_) (fun h => ?_)
        · have a1 := ndT h
          refine ⟨_, rfl, _, _, rfl, rfl, _, rfl, ?_⟩
          refine iteC (fun h => ?_) (fun h => ?_)
          · have a2 : c ≠ 46 := fun z => ndT h (by rw [z])
            refine ⟨_, rfl, _, _, rfl, rfl, _, rfl, ?_⟩
            refine iteC (fun h0 => ?_) (fun h0 => ?_)
            · have h0 : i = 0 := by have := of_decide_eq_true h0; omega
              refine ⟨_, rfl, ash, dx4, _, rfl, ha4, sh_floats p, ash, p, rfl, ⟨dx4, ha4⟩, _, rfl, ?_⟩
              have : (!decide (p.first ∈ FLT)) = decide (c ∉ INS ∧ c ≠ 46 ∧ ¬ (i = 0 ∧ decide (p.first ∈ FLT) = true)) := by
                cases hq : decide (p.first ∈ FLT) with
                | true => exact (decide_eq_false (fun z => z.2.2 ⟨h0, rfl⟩)).symm
                | false => exact (decide_eq_true ⟨a1, a2, fun z => nomatch z.2⟩).symm
              show Q' (!decide (p.first ∈ FLT)) H4
              rw [this]
              exact g0
            · have h0 : ¬ i = 0 := by have := of_decide_eq_false h0; omega
              rw [decide_eq_true ⟨a1, a2, fun z => h0 z.1⟩] at g0
              exact g0
          · have a2 : c = 46 := by have := ndF h; simpa using this
            rw [decide_eq_false (fun z => z.2.1 a2)] at g0
            exact g0
        · have a1 := ndF h
          rw [decide_eq_false (fun z => z.1 a1)] at g0
          exact g0
      have s6 := s4.trans s5
      refine iteC (fun h => ?_) (fun h => ?_)
      · have h := of_decide_eq_true h
        rw [if_pos h, ← List.append_assoc] at e1
        have fin : ∀ z : BX.T, z = [dgt (text.drop p.lead.length)[i]?] → WRe H2 p text ash (i + 1) [some (tS (line p)), some (tS text), some (.ref ash), some (.int (beh p)), some (tS (acc ++ z)), some (tS (syms p)), some (.int p.lead.length), some (.int i), some (tS [c]), some (tS sg), none] H5 := fun z hz =>
          ⟨acc ++ z, some (.int i), some (tS [c]), some (tS sg), hlt, by rw [hz, List.length_append]; exact Nat.add_le_add_right hal 1, rfl, s6, by rw [hz]; exact e1⟩
        refine ⟨_, rfl, ?_⟩
        clear eS eS'
        cases hq : (text.drop p.lead.length)[i]? with
        | none =>
          rw [hq] at hsg fin
          subst hsg
          refine ⟨_, rfl, [], [], rfl, rfl, _, rfl, ?_⟩
          refine iteN rfl ?_
          exact ⟨acc, [48], rfl, rfl, by show _ + 1 ≤ 1000; omega, fin [48] rfl⟩
        | some d =>
          rw [hq] at hsg fin
          subst hsg
          refine ⟨_, rfl, [d], [], rfl, rfl, _, rfl, ?_⟩
          refine iteE (by simp) ⟨_, rfl, d, FIG, rfl, rfl, _, rfl, ?_⟩
          refine iteC (fun h => ?_) (fun h => ?_)
          · have h := of_decide_eq_true h
            exact ⟨_, rfl, acc, [d], rfl, rfl, by show _ + 1 ≤ 1000; omega, fin [d] (by rw [dgt_yes h])⟩
          · have h := of_decide_eq_false h
            exact ⟨acc, [48], rfl, rfl, by show _ + 1 ≤ 1000; omega, fin [48] (by rw [dgt_no h])⟩
      · have h := of_decide_eq_false h
        rw [if_neg h, List.nil_append] at e1
        exact ⟨acc, _, _, _, hlt, by omega, rfl, s6, e1⟩
    · rintro σ H3 ⟨acc, y, n, d, hi, hal, rfl, s3, e1⟩
      rw [List.drop_eq_nil_of_le (Nat.le_refl _)] at e1
      have e1 : acc = rdT p text := by
        rw [← e1]
        exact (List.append_nil acc).symm
      have e2 : acc = dgs (whl p) u.natAbs := by rw [e1, ← htext]; exact tx_read hd u
      clear e1
      subst e2
      have nn : dgs (whl p) u.natAbs ≠ [] := fun z => by
        have := dgs_len (whl p) u.natAbs
        rw [z] at this
        have : 0 = bef p + beh p := this
        omega
      have nl : (dgs (whl p) u.natAbs).length ≤ 100 := by
        rw [dgs_len]
        show bef p + beh p ≤ 100
        have : bef p + beh p ≤ 2 := h5
        omega
      dsimp only
      refine stepC ⟨_, rfl, _, rfl, dgs_fig _ _, nn, nl, ⟨_, rfl, _, rfl, dgs_fig _ _, nn, nl, ⟨_, rfl, ⟨by show 2 ≤ sizeLine; decide, fun t ht => ⟨t, rfl, ⟨_, SqT.of upd_same⟩, ?_⟩⟩⟩⟩⟩
      rw [num_dgs _ _ hu]
      have s5 := sm_new (o := .tup [.int ((u.natAbs : Nat) : Int), .int (-((u.natAbs : Nat) : Int))]) s3 ht
      have ht5 : (upd H3 t (.tup [.int ((u.natAbs : Nat) : Int), .int (-((u.natAbs : Nat) : Int))])) t = some (.tup [.int ((u.natAbs : Nat) : Int), .int (-((u.natAbs : Nat) : Int))]) := upd_same
      generalize upd H3 t (.tup [.int ((u.natAbs : Nat) : Int), .int (-((u.natAbs : Nat) : Int))]) = H4 at s5 ht5 ⊢
      clear s3
      subst htext
      generalize dgs (whl p) u.natAbs = acc at *
      refine for_tup (K := K) (a := t) (xs := [.int ((u.natAbs : Nat) : Int), .int (-((u.natAbs : Nat) : Int))]) (fun i σ H' => Same H4 H' ∧ i ≤ 1 ∧ (i = 1 → shows p = true ∧ u < 0) ∧ ∃ q : Option V, σ = [some (tS (line p)), some (tS (tx p u)), some (.ref ash), some (.int (beh p)), some (tS acc), some (tS (syms p)), some (.int p.lead.length), y, n, d, q]) ⟨Same.refl _, by decide, (fun z => by cases z), none, rfl⟩ (fun i σ H' _ h => (h.1.tup (SqT.of ht5))) ?_ ?_
      · rintro i x σ H5 hx ⟨s6, hi1, hi2, q, rfl⟩
        obtain ⟨v, rfl, hv, hvu, hvn⟩ : ∃ v : Int, x = .int v ∧ v.natAbs = u.natAbs ∧ (tx p v = tx p u → v = if shows p = true then u else (u.natAbs : Int)) ∧ (tx p v ≠ tx p u → i + 1 ≤ 1 ∧ (i + 1 = 1 → shows p = true ∧ u < 0)) := by
          match i, hx with
          | 0, hx =>
            refine ⟨(u.natAbs : Int), ?_, by omega, fun e => ?_, fun e => ⟨Nat.le_refl _, fun _ => ?_⟩⟩
            · have : V.int ((u.natAbs : Nat) : Int) = x := by simpa using hx
              exact this.symm
            · split
              · rename_i hs
                exact tx_inj hd hs (by rw [show ((u.natAbs : Nat) : Int).natAbs = u.natAbs by omega]; exact hu) hu e
              · rfl
            · have hs : shows p = true := by
                cases hs : shows p with
                | true => rfl
                | false => exact absurd (tx_neg hs (by omega)) e
              refine ⟨hs, ?_⟩
              rcases Int.lt_or_le u 0 with h | h
              · exact h
              · exact absurd (by rw [show ((u.natAbs : Nat) : Int) = u by omega]) e
          | 1, hx =>
            obtain ⟨hs, h0⟩ := hi2 rfl
            refine ⟨-(u.natAbs : Int), ?_, by omega, fun e => ?_, fun e => ?_⟩
            · have : V.int (-((u.natAbs : Nat) : Int)) = x := by simpa using hx
              exact this.symm
            · rw [if_pos hs]; omega
            · exact absurd (by rw [show -((u.natAbs : Nat) : Int) = u by omega]) e
          | i + 2, hx => simp at hx
        refine normS [some (tS (line p)), some (tS (tx p u)), some (.ref ash), some (.int (beh p)), some (tS acc), some (tS (syms p)), some (.int p.lead.length), y, n, d, some (.int v)] rfl ?_
        refine ⟨_, rfl, _, rfl, _, rfl, by show 2 ≤ sizeLine; decide, fun t2 ht2 => ⟨p, t2, v, rfl, hd, by omega, SqT.of upd_same, by rw [hv]; exact hu, fun H6 s7 => ?_⟩⟩
        have s8 := (sm_new s6 ht2).trans s7
        refine ⟨_, rfl, _, _, rfl, rfl, _, rfl, ?_⟩
        refine iteC (fun h => ?_) (fun h => ?_)
        · have h := of_decide_eq_true h
          refine ⟨_, rfl, _, rfl, by show 2 ≤ sizeLine; decide, fun t3 ht3 => ?_⟩
          rw [hvu h]
          exact k t3 _ (sm_new ((sA.trans s5).trans s8) ht3) upd_same
        · have h := of_decide_eq_false h
          exact ⟨s8, (hvn h).1, (hvn h).2, _, rfl⟩
      · rintro σ H5 ⟨_, hi1, _⟩
        exact absurd hi1 (by show ¬ 2 ≤ 1; decide)
abbrev s_texts_in_all : Stmt := top 37
theorem sc_texts_in_all : FnScope ["picture", "shows", "before", "behind", "many"] ["picture"] (defScope s_texts_in_all) := ⟨rfl, rfl, rfl, by decide +kernel, rfl, by decide +kernel, by decide +kernel⟩
theorem ok_texts_in_all {P : Program} {w : World} {K : PySem.W.Frag} {mg : Str → Option Value} {base : Heap} {f C : Addr} {fd : FuncData} (F : Fun K "texts_in_all" "texts_in_all" s_texts_in_all f fd) (T : Txt K mg C) (C_look_edited : Cal P w K mg base "look_edited" 8 ["picture"] (spLook C)) (C_room : Cal P w K mg base "room" 7 ["picture"] spRoom) (C_ten_to : Cal P w K mg base "ten_to" 1 ["places"] spTen) :
    FnOk P w K mg base CX0 9 f fd ["picture"] spTexts := by
  obtain ⟨f_look_edited, fd_look_edited, G_look_edited, m_look_edited, k_look_edited, b_look_edited⟩ := C_look_edited.ex
  obtain ⟨f_room, fd_room, G_room, m_room, k_room, b_room⟩ := C_room.ex
  obtain ⟨f_ten_to, fd_ten_to, G_ten_to, m_ten_to, k_ten_to, b_ten_to⟩ := C_ten_to.ex
  refine F.ok sc_texts_in_all (fun vs H Q E h => ?_) (fun cdv A outer s H vs Q E hr h => ?_)
  · obtain ⟨p, rfl, hd, k⟩ := h
    rfl
  · obtain ⟨p, rfl, hd, k⟩ := h
    refine ⟨_, (pss_cons (ps_expr (pe_call G_look_edited (hr.mono (by decide)) (by rfl) m_look_edited k_look_edited b_look_edited .nil pass0 (pa_cons (pv 0) pa_nil)))
      (pss_cons (ps_asg (pe_call G_room (hr.mono (by decide)) (by rfl) m_room k_room b_room .nil pass0 (pa_cons (pv 0) pa_nil)) (pg_tup rfl (pgs_cons (pg_name (i := 1) sc_texts_in_all.nd rfl (Or.inl rfl)) (pgs_cons (pg_name (i := 2) sc_texts_in_all.nd rfl (Or.inl rfl)) (pgs_cons (pg_name (i := 3) sc_texts_in_all.nd rfl (Or.inl rfl)) pgs_nil)))))
      (pss_cons (ps_set (i := 4) sc_texts_in_all.nd rfl (Or.inl rfl) (pe_call G_ten_to (hr.mono (by decide)) (by rfl) m_ten_to k_ten_to b_ten_to .nil pass0 (pa_cons (pe_op op_add (pv 2) (pv 3)) pa_nil)))
      (pss_one (ps_ret (pe_ifExp (pt_val (pv 1)) (pe_op op_sub (pe_op op_mul (pv 4) pe_int) pe_int) (pv 4))))))), ?_⟩
    have bp := bef_pos hd
    have l3 := br_len hd
    refine ⟨_, rfl, p, rfl, hd, fun a H1 s1 sh => ?_⟩
    refine ⟨_, rfl, p, rfl, hd, fun t H2 s2 ht => ?_⟩
    refine ⟨t, _, rfl, SqT.of ht, rfl, _, _, rfl, _, _, rfl, _, _, rfl, rfl, ?_⟩
    have kk := k H2 (s1.trans s2)
    refine ⟨_, rfl, _, rfl, _, _, rfl, rfl, whl p, ?_, by unfold whl beh; omega, ?_⟩
    · show [V.int ((bef p : Int) + (beh p : Int))] = _
      rw [← Int.natCast_add]
    refine ⟨_, rfl, _, rfl, ?_⟩
    refine iteC (fun h => ?_) (fun h => ?_)
    · rw [if_pos h] at kk
      exact ⟨_, rfl, _, _, rfl, rfl, .inr ⟨by decide, by decide⟩, _, _, rfl, rfl, kk⟩
    · rw [if_neg (by rw [h]; decide)] at kk
      exact ⟨_, rfl, kk⟩
abbrev s_law_draw : Stmt := top 39
theorem sc_law_draw : FnScope ["_law_script", "_law_town", "_law_many", "_law_at", "_law_rest", "_law_number"] ["_law_script", "_law_town", "_law_many"] (defScope s_law_draw) := ⟨rfl, rfl, rfl, by decide +kernel, rfl, by decide +kernel, by decide +kernel⟩
theorem ok_law_draw {P : Program} {w : World} {K : PySem.W.Frag} {mg : Str → Option Value} {base : Heap} {f C : Addr} {fd : FuncData} (F : Fun K "_law_draw" "_law_draw" s_law_draw f fd) (T : Txt K mg C) :
    FnOk P w K mg base CX0 1 f fd ["_law_script", "_law_town", "_law_many"] (spDraw K) := by
  refine F.ok sc_law_draw (fun vs H Q E h => ?_) (fun cdv A outer s H vs Q E hr h => ?_)
  · obtain ⟨sc, t, r, ns, m, rfl, hT, h1, h2, k⟩ := h
    rfl
  · obtain ⟨sc, t, r, ns, m, rfl, hT, h1, h2, k⟩ := h
    refine ⟨_, (pss_cons (ps_dput (hu_of hr) (pv 1) (pe_txt (l := [99, 111, 117, 110, 116]) (by decide +kernel)) (pe_op op_add (pe_dget (hu_of hr) (pv 1) (pe_txt (l := [99, 111, 117, 110, 116]) (by decide +kernel)) (fun _ _ => rfl)) pe_int) rfl)
      (pss_cons (ps_set (i := 3) sc_law_draw.nd rfl (Or.inl rfl) (pe_ifExp (pt_truth (pv 0) (by intro _; rfl)) (pe_op op_mod (pe_dget (hu_of hr) (pv 1) (pe_txt (l := [99, 111, 117, 110, 116]) (by decide +kernel)) (fun _ _ => rfl)) (pe_callB call_len_seq (by rfl) T.len (by decide +kernel) (pa_cons (pv 0) pa_nil))) pe_int))
      (pss_cons (ps_set (i := 4) sc_law_draw.nd rfl (Or.inl rfl) (pe_dget2 (hu_of hr) (pe_dget (hu_of hr) (pv 1) (pe_txt (l := [114, 101, 115, 116, 115]) (by decide +kernel)) (fun _ _ => rfl)) (pv 3) (pe_ifExp (pt_truth (pv 0) (by intro _; rfl)) (pe_ix ix_list (pv 0) (pv 3) (fun _ _ => rfl)) pe_int) ⟨by rfl, by rfl, by rfl, by rfl⟩))
      (pss_cons (ps_if (pt_cmpR op_ge (pv 4) (pe_op op_pow pe_int pe_int) (nomark _)) (pss_cons (ps_dput (hu_of hr) (pe_dget (hu_of hr) (pv 1) (pe_txt (l := [114, 101, 115, 116, 115]) (by decide +kernel)) (fun _ _ => rfl)) (pv 3) (pe_op op_fdiv (pv 4) (pv 2)) rfl)
      (pss_one (ps_ret (pe_op op_mod (pv 4) (pv 2))))) pss_nil)
      (pss_cons (ps_set (i := 5) sc_law_draw.nd rfl (Or.inl rfl) (pe_op op_mod (pe_op op_add (pv 4) (pe_op op_mul pe_int (pe_dget (hu_of hr) (pv 1) (pe_txt (l := [99, 111, 117, 110, 116]) (by decide +kernel)) (fun _ _ => rfl)))) pe_int))
      (pss_cons (ps_set (i := 5) sc_law_draw.nd rfl (Or.inl rfl) (pe_op op_mod (pe_op op_pow (pv 5) pe_int) pe_int))
      (pss_one (ps_ret (pe_op op_mod (pe_op op_fdiv (pe_op op_mod (pe_op op_add (pe_op op_mul (pe_op op_fdiv (pv 5) pe_int) pe_int) (pv 5)) pe_int) pe_int) (pv 2)))))))))), ?_⟩
    obtain ⟨c, ht⟩ := hT.tn
    refine ⟨_, rfl, t, _, rfl, .inl ⟨_, _, .inl ht, rfl, (town_count c r).symm⟩, _, _, rfl, rfl, _, rfl, t, _, rfl, .inl ⟨_, .inr cS, ht, rfl, by show 2 < sizeLine; decide, rfl⟩, ?_⟩
    rw [town_put]
    have hT1 := hT.tick (c + 1)
    have ht1 : (upd H t (.dK (townK (c + 1) r))) t = some (.dK (townK (c + 1) r)) := upd_same
    have c1 : Chg t r H (upd H t (.dK (townK (c + 1) r))) := chg_t
    generalize upd H t (.dK (townK (c + 1) r)) = H1 at *
    clear hT ht
    dsimp only
    obtain ⟨i, hi⟩ : ∃ i : Nat, i = if ns = [] then 0 else ((c + 1) % (ns.length : Int)).toNat := ⟨_, rfl⟩
    have hne : ns ≠ [] → (0 : Int) < (ns.length : Int) := fun h => by
      have := List.length_pos_iff.mpr h
      omega
    have hi1 : ns ≠ [] → i < ns.length ∧ ((c + 1) % (ns.length : Int)) = (i : Int) := fun h => by
      rw [if_neg h] at hi
      have a1 := Int.emod_nonneg (c + 1) (Int.ne_of_gt (hne h))
      have a2 := Int.emod_lt_of_pos (c + 1) (hne h)
      omega
    have hi2 : i < 64 := by
      by_cases h : ns = []
      · rw [if_pos h] at hi; omega
      · have := hT1.ln
        have := (hi1 h).1
        omega
    refine stepC (cutSetN (.int (i : Int)) [some (.ref sc), some (.ref t), some (.int m), some (.int (i : Int)), none, none] rfl (fun H2 s2 => ?_) (fun Q' g => ?_))
    rotate_left
    · have g0 := g _ (Same.refl _)
      refine ⟨_, rfl, _, .inl ⟨_, hT1.sq, rfl⟩, ?_⟩
      refine iteC (fun h => ?_) (fun h => ?_)
      · have hn : ns ≠ [] := fun z => by rw [z] at h; cases h
        refine ⟨_, rfl, t, _, rfl, .inl ⟨_, _, .inl ht1, rfl, (town_count (c + 1) r).symm⟩, _, rfl, sc, _, rfl, .inl hT1.sq, _, _, rfl, rfl, ?_, ?_⟩
        · rw [List.length_map]; exact hne hn
        · rw [List.length_map]; show Q' (.int ((c + 1) % (ns.length : Int))) H1; rw [(hi1 hn).2]; exact g0
      · have hn : ns = [] := by
          cases ns with
          | nil => rfl
          | cons a b => cases h
        rw [if_pos hn] at hi
        rw [hi] at g0
        exact g0
    have hT2 := hT1.same s2
    have c2 := c1.trans s2.chg
    have ht2 := s2 _ _ ht1
    obtain ⟨kvs, hr2, hk⟩ := hT2.rs
    dsimp only
    refine stepC (cutSt (fun σ' H' => ∃ z : Int, H' = H2 ∧ σ' = [some (.ref sc), some (.ref t), some (.int m), some (.int (i : Int)), some (.int z), none]) (fun σ' H' => ?_) (fun nx' g => ?_))
    rotate_left
    · obtain ⟨zo, hzo⟩ : ∃ o, o = valV kvs (.inl (i : Int)) := ⟨_, rfl⟩
      have fin : ∀ z0 : Int, nx' ([some (.ref sc), some (.ref t), some (.int m), some (.int (i : Int)), none, none].set 4 (some (zo.getD (.int z0)))) H2 := fun z0 => by
        cases hz : zo with
        | none => exact g _ _ ⟨z0, rfl, rfl⟩
        | some v =>
          rw [hz] at hzo
          obtain ⟨z, hz2⟩ := keyed_get hk hzo.symm
          rw [hz2]
          exact g _ _ ⟨z, rfl, rfl⟩
      refine ⟨_, rfl, t, _, rfl, .inl ⟨_, _, .inl ht2, rfl, (town_rests (c + 1) r).symm⟩, r, rfl, .inl ⟨kvs, .inl hr2⟩, _, rfl, _, rfl, _, .inl ⟨_, hT2.sq, rfl⟩, ?_⟩
      refine iteC (fun h => ?_) (fun h => ?_)
      · have hn : ns ≠ [] := fun z => by rw [z] at h; cases h
        refine ⟨_, rfl, _, rfl, sc, _, (i : Int), .int (ns[i]'(hi1 hn).1), rfl, rfl, hT2.sq, ?_, zo, .inl ⟨kvs, _, .inl hr2, rfl, hzo⟩, fin _⟩
        rw [atI_nat, List.getElem?_map, List.getElem?_eq_getElem (hi1 hn).1]
        rfl
      · exact ⟨zo, .inl ⟨kvs, .inl (i : Int), .inl hr2, rfl, hzo⟩, fin 0⟩
    rintro ⟨z, rfl, rfl⟩
    have hm0 : (0 : Int) < (m : Int) := by omega
    have fin : ∀ (x : Int) H', Tw K H' sc t r ns → Chg t r H H' → Q (.int (x % (m : Int))) H' := fun x H' a b => by
      have a1 := Int.emod_nonneg x (Int.ne_of_gt hm0)
      have a2 := Int.emod_lt_of_pos x hm0
      have := k (x % (m : Int)).toNat H' (by omega) a b
      rw [Int.toNat_of_nonneg a1] at this
      exact this
    dsimp only
    refine stepC ⟨_, rfl, _, _, rfl, rfl, ⟨by decide, by decide, by decide⟩, _, _, rfl, rfl, _, rfl, ?_⟩
    refine iteC (fun h => ?_) (fun h => ?_)
    · refine stepC ⟨_, rfl, _, rfl, _, _, rfl, rfl, ⟨by omega, by omega⟩, _, rfl, t, _, rfl, .inl ⟨_, _, .inl ht2, rfl, (town_rests (c + 1) r).symm⟩, _, rfl, r, _, rfl, .inl ⟨kvs, .inl (i : Int), hr2, rfl, ?_, rfl⟩, ?_⟩
      · have := keyed_len hk
        show kvs.length < sizeLine
        exact Nat.lt_of_le_of_lt this (by decide)
      · exact ⟨_, rfl, _, rfl, _, _, rfl, rfl, hm0, fin _ _ (hT2.rest (keyed_put hk hi2)) (c2.trans chg_r)⟩
    · have b1 := Int.emod_nonneg (z + 104729 * (c + 1)) (show (4294967291 : Int) ≠ 0 by decide)
      have b2 := Int.emod_lt_of_pos (z + 104729 * (c + 1)) (show (0 : Int) < 4294967291 by decide)
      refine stepN ⟨_, rfl, _, rfl, t, _, rfl, .inl ⟨_, _, .inl ht2, rfl, (town_count (c + 1) r).symm⟩, _, _, rfl, rfl, .inl ⟨by decide, by decide⟩, _, _, rfl, rfl, _, _, rfl, rfl, by show (0 : Int) < 4294967291; decide, ?_⟩
      refine stepS ⟨_, rfl, _, _, rfl, rfl, ⟨by decide, by decide, by omega⟩, _, _, rfl, rfl, by show (0 : Int) < 4294967279; decide, ?_⟩
      exact ⟨_, rfl, _, _, rfl, rfl, ⟨by decide, by decide⟩, _, _, rfl, rfl, .inr ⟨by decide, by decide⟩, _, rfl, _, _, rfl, rfl, _, _, rfl, rfl, by show (0 : Int) < 4294967231; decide, _, _, rfl, rfl, ⟨by decide, by decide⟩, _, rfl, _, _, rfl, rfl, hm0, fin _ _ hT2 c2⟩
abbrev s_law_begun : Stmt := top 40
theorem sc_law_begun : FnScope [] [] (defScope s_law_begun) := ⟨rfl, rfl, rfl, by decide +kernel, rfl, by decide +kernel, by decide +kernel⟩
theorem ok_law_begun {P : Program} {w : World} {K : PySem.W.Frag} {mg : Str → Option Value} {base : Heap} {f C : Addr} {fd : FuncData} (F : Fun K "_law_begun" "_law_begun" s_law_begun f fd) (T : Txt K mg C) :
    FnOk P w K mg base CX0 1 f fd [] spBegun := by
  refine F.ok sc_law_begun (fun vs H Q E h => ?_) (fun cdv A outer s H vs Q E hr h => ?_)
  · obtain ⟨rfl, k⟩ := h
    rfl
  · obtain ⟨rfl, k⟩ := h
    refine ⟨_, (pss_one (ps_ret (pe_disp (pps_cons (pe_txt (l := [99, 111, 117, 110, 116]) (by decide +kernel)) pe_int (pps_cons (pe_txt (l := [114, 101, 115, 116, 115]) (by decide +kernel)) pe_dnewK pps_nil)) (by rfl) (by rfl) (fun z => by cases z) (by decide)))), ?_⟩
    intro t ht
    intro r hr2
    have hrt : r ≠ t := fun z => by rw [z, upd_same] at hr2; cases hr2
    have hr0 : H r = none := by rw [← hr2, upd_ne hrt]
    refine ⟨?_, townK 0 r, rfl, by show 2 ≤ 15; decide, ?_⟩
    · rw [upd_ne (Ne.symm hrt), upd_same]
    · refine k t r _ (sm_mut (sm_new (sm_new (Same.refl _) ht) hr2) ht) ?_ ?_ ht hr0
      · rw [upd_same]; rfl
      · rw [upd_ne hrt, upd_same]
abbrev s_law_places : Stmt := top 41
theorem sc_law_places : FnScope ["_law_script", "_law_town", "_law_symbol", "_law_most", "_law_found", "_law_k"] ["_law_script", "_law_town", "_law_symbol", "_law_most"] (defScope s_law_places) := ⟨rfl, rfl, rfl, by decide +kernel, rfl, by decide +kernel, by decide +kernel⟩
theorem ok_law_places {P : Program} {w : World} {K : PySem.W.Frag} {mg : Str → Option Value} {base : Heap} {f C : Addr} {fd : FuncData} (F : Fun K "_law_places" "_law_places" s_law_places f fd) (T : Txt K mg C) (C_law_draw : Cal P w K mg base "_law_draw" 1 ["_law_script", "_law_town", "_law_many"] (spDraw K)) :
    FnOk P w K mg base CX0 2 f fd ["_law_script", "_law_town", "_law_symbol", "_law_most"] (spPlaces K) := by
  obtain ⟨f_law_draw, fd_law_draw, G_law_draw, m_law_draw, k_law_draw, b_law_draw⟩ := C_law_draw.ex
  refine F.ok sc_law_places (fun vs H Q E h => ?_) (fun cdv A outer s H vs Q E hr h => ?_)
  · obtain ⟨sc, t, r, ns, f, m, rfl, hT, hf, h1, h2, k⟩ := h
    rfl
  · obtain ⟨sc, t, r, ns, f, m, rfl, hT, hf, h1, h2, k⟩ := h
    refine ⟨_, (pss_cons (ps_set (i := 4) sc_law_places.nd rfl (Or.inl rfl) (pv 2))
      (pss_cons (ps_for PassesOwn.never rfl (pi_range1 (by rfl) T.range (pa_cons (pe_call G_law_draw (hr.mono (by decide)) (by rfl) m_law_draw k_law_draw b_law_draw .nil pass0 (pa_cons (pv 0) (pa_cons (pv 1) (pa_cons (pv 3) pa_nil)))) pa_nil)) (pg_name (i := 5) sc_law_places.nd rfl (Or.inl rfl)) (pss_one (ps_set (i := 4) sc_law_places.nd rfl (Or.inl rfl) (pe_op o_addS (pe_op o_addS (pv 4) (pe_ix ix_list (pe_lst (pa_cons (pe_txt (l := []) (by decide +kernel)) (pa_cons (pe_txt (l := []) (by decide +kernel)) (pa_cons (pe_txt (l := [44]) (by decide +kernel)) (pa_cons (pe_txt (l := [66]) (by decide +kernel)) (pa_cons (pe_txt (l := [48]) (by decide +kernel)) (pa_cons (pe_txt (l := [47]) (by decide +kernel)) (pa_cons (pe_txt (l := [66, 44]) (by decide +kernel)) pa_nil)))))))) (pe_call G_law_draw (hr.mono (by decide)) (by rfl) m_law_draw k_law_draw b_law_draw .nil pass0 (pa_cons (pv 0) (pa_cons (pv 1) (pa_cons pe_int pa_nil)))) (fun _ _ => rfl))) (pv 2)))))
      (pss_one (ps_ret (pe_op o_addS (pv 4) (pe_ix ix_list (pe_lst (pa_cons (pe_txt (l := []) (by decide +kernel)) (pa_cons (pe_txt (l := []) (by decide +kernel)) (pa_cons (pe_txt (l := []) (by decide +kernel)) (pa_cons (pe_txt (l := [44]) (by decide +kernel)) (pa_cons (pe_txt (l := [47]) (by decide +kernel)) pa_nil)))))) (pe_call G_law_draw (hr.mono (by decide)) (by rfl) m_law_draw k_law_draw b_law_draw .nil pass0 (pa_cons (pv 0) (pa_cons (pv 1) (pa_cons pe_int pa_nil)))) (fun _ _ => rfl))))))), ?_⟩
    refine ⟨_, rfl, ?_⟩
    refine stepS ?_
    refine ⟨_, rfl, _, rfl, _, rfl, sc, t, r, ns, m, rfl, hT, h1, by omega, fun z H1 hz hT1 c1 => ?_⟩
    refine ⟨(z : Int), rfl, by omega, by omega, for_range (lo := 0) (n := z) (fun i σ H' => ∃ (w : BX.T) (y : Option V), σ = [some (.ref sc), some (.ref t), some (tS [f]), some (.int m), some (tS w), y] ∧ plc w = List.replicate (i + 1) f ∧ (∃ x, w = f :: x) ∧ w.length ≤ 1 + 3 * i ∧ Tw K H' sc t r ns ∧ Chg t r H H') ⟨[f], none, rfl, plc_one hf, ⟨[], rfl⟩, Nat.le_refl 1, hT1, c1⟩ ?_ ?_⟩
    · rintro i σ H2 hi ⟨w, y, rfl, hp, ⟨x, rfl⟩, hl, hT2, c2⟩
      refine normS [some (.ref sc), some (.ref t), some (tS [f]), some (.int m), some (tS (f :: x)), some (.int (0 + (i : Int)))] rfl ?_
      refine ⟨_, rfl, by show 7 ≤ sizeLine; decide, fun q hq => ⟨_, rfl, _, rfl, pickD (E := E0) [[], [], [44], [66], [48], [47], [66, 44]] hT2 (by decide) (by decide) rfl q hq fun l hl2 H3 hT3 c3 => ?_⟩⟩
      have hI : (∀ c ∈ l, c ∈ INS) ∧ l.length ≤ 2 := by
        revert l
        decide
      refine ⟨_, _, rfl, rfl, by rw [List.length_cons] at hl ⊢; omega, _, rfl, _, _, rfl, rfl, ?_, ?_⟩
      · rw [List.length_append]
        show _ + 1 ≤ 1000
        omega
      · refine ⟨(f :: x) ++ l ++ [f], _, rfl, ?_, ⟨x ++ l ++ [f], rfl⟩, ?_, hT3, c2.trans c3⟩
        · rw [plc_app, plc_app, hp, plc_ins hI.1, plc_one hf, List.append_nil, ← List.replicate_succ']
        · rw [List.length_append, List.length_append]
          show _ + 1 ≤ _
          omega
    · rintro σ H2 ⟨w, y, rfl, hp, ⟨x, rfl⟩, hl, hT2, c2⟩
      refine ⟨_, rfl, by show 5 ≤ sizeLine; decide, fun q hq => ⟨_, rfl, _, rfl, pickD (E := E0) [[], [], [], [44], [47]] hT2 (by decide) (by decide) rfl q hq fun l hl2 H3 hT3 c3 => ?_⟩⟩
      have hI : (∀ c ∈ l, c ∈ INS) ∧ l.length ≤ 1 := by
        revert l
        decide
      refine ⟨_, _, rfl, rfl, by omega, k ((f :: x) ++ l) (z + 1) H3 (by omega) (by omega) ?_ ⟨x ++ l, rfl⟩ ?_ hT3 (c2.trans c3)⟩
      · rw [plc_app, hp, plc_ins hI.1, List.append_nil]
      · rw [List.length_append]; omega
abbrev s_law_an_edited : Stmt := top 42
theorem sc_law_an_edited : FnScope ["_law_script", "_law_town", "_law_first", "_law_whole", "_law_broken", "_law_signs", "_law_lead", "_law_tail"] ["_law_script", "_law_town"] (defScope s_law_an_edited) := ⟨rfl, rfl, rfl, by decide +kernel, rfl, by decide +kernel, by decide +kernel⟩
theorem f6_of : ∀ f ∈ [57, 90, 42, 43, 45, 36, 90, 57], f ∈ [57, 90, 42, 43, 45, 36] := by decide
theorem cnt_plc {f : Nat} (h : f ∉ INS) (w : BX.T) : w.count f = (plc w).count f := by
  unfold plc
  rw [List.count_filter]
  rw [decide_eq_false h]; rfl
theorem ok_law_an_edited {P : Program} {w : World} {K : PySem.W.Frag} {mg : Str → Option Value} {base : Heap} {f C : Addr} {fd : FuncData} (F : Fun K "_law_an_edited" "_law_an_edited" s_law_an_edited f fd) (T : Txt K mg C) (C_law_draw : Cal P w K mg base "_law_draw" 1 ["_law_script", "_law_town", "_law_many"] (spDraw K)) (C_law_places : Cal P w K mg base "_law_places" 2 ["_law_script", "_law_town", "_law_symbol", "_law_most"] (spPlaces K)) :
    FnOk P w K mg base CX0 3 f fd ["_law_script", "_law_town"] (spAnEd K) := by
  obtain ⟨f_law_draw, fd_law_draw, G_law_draw, m_law_draw, k_law_draw, b_law_draw⟩ := C_law_draw.ex
  obtain ⟨f_law_places, fd_law_places, G_law_places, m_law_places, k_law_places, b_law_places⟩ := C_law_places.ex
  refine F.ok sc_law_an_edited (fun vs H Q E h => ?_) (fun cdv A outer s H vs Q E hr h => ?_)
  · obtain ⟨sc, t, r, ns, rfl, hT, k⟩ := h
    rfl
  · obtain ⟨sc, t, r, ns, rfl, hT, k⟩ := h
    refine ⟨_, (pss_cons (ps_set (i := 2) sc_law_an_edited.nd rfl (Or.inl rfl) (pe_ix ix_list (pe_lst (pa_cons (pe_txt (l := [57]) (by decide +kernel)) (pa_cons (pe_txt (l := [90]) (by decide +kernel)) (pa_cons (pe_txt (l := [42]) (by decide +kernel)) (pa_cons (pe_txt (l := [43]) (by decide +kernel)) (pa_cons (pe_txt (l := [45]) (by decide +kernel)) (pa_cons (pe_txt (l := [36]) (by decide +kernel)) (pa_cons (pe_txt (l := [90]) (by decide +kernel)) (pa_cons (pe_txt (l := [57]) (by decide +kernel)) pa_nil))))))))) (pe_call G_law_draw (hr.mono (by decide)) (by rfl) m_law_draw k_law_draw b_law_draw .nil pass0 (pa_cons (pv 0) (pa_cons (pv 1) (pa_cons pe_int pa_nil)))) (fun _ _ => rfl)))
      (pss_cons (ps_set (i := 3) sc_law_an_edited.nd rfl (Or.inl rfl) (pe_call G_law_places (hr.mono (by decide)) (by rfl) m_law_places k_law_places b_law_places .nil pass0 (pa_cons (pv 0) (pa_cons (pv 1) (pa_cons (pv 2) (pa_cons pe_int pa_nil))))))
      (pss_cons (ps_if (PW.pt (pw_and (pt_cmpR o_inC (pv 2) (pe_txt (l := [43, 45, 36]) (by decide +kernel)) (by rfl)) (pw_and1 (pt_cmpR op_lt (pe_m1 PySem.F.slot_str_count PySem.F.type_str_count m_count (pv 3) (pv 2)) pe_int (nomark _))))) (pss_one (ps_set (i := 3) sc_law_an_edited.nd rfl (Or.inl rfl) (pe_op o_addS (pv 2) (pv 3)))) pss_nil)
      (pss_cons (ps_if (PW.pt (pw_and (pt_cmpR o_neS (pv 2) (pe_txt (l := [57]) (by decide +kernel)) (nomark _)) (pw_and1 (pt_cmpR o_eqI (pe_call G_law_draw (hr.mono (by decide)) (by rfl) m_law_draw k_law_draw b_law_draw .nil pass0 (pa_cons (pv 0) (pa_cons (pv 1) (pa_cons pe_int pa_nil)))) pe_int (nomark _))))) (pss_one (ps_set (i := 3) sc_law_an_edited.nd rfl (Or.inl rfl) (pe_op o_addS (pv 3) (pe_call G_law_places (hr.mono (by decide)) (by rfl) m_law_places k_law_places b_law_places .nil pass0 (pa_cons (pv 0) (pa_cons (pv 1) (pa_cons (pe_txt (l := [57]) (by decide +kernel)) (pa_cons pe_int pa_nil)))))))) pss_nil)
      (pss_cons (ps_set (i := 4) sc_law_an_edited.nd rfl (Or.inl rfl) (pe_ix ix_list (pe_lst (pa_cons (pe_txt (l := []) (by decide +kernel)) (pa_cons (pe_txt (l := [57]) (by decide +kernel)) (pa_cons (pe_txt (l := [57, 57]) (by decide +kernel)) (pa_cons (pe_txt (l := [57, 57, 57]) (by decide +kernel)) pa_nil))))) (pe_call G_law_draw (hr.mono (by decide)) (by rfl) m_law_draw k_law_draw b_law_draw .nil pass0 (pa_cons (pv 0) (pa_cons (pv 1) (pa_cons pe_int pa_nil)))) (fun _ _ => rfl)))
      (pss_cons (ps_if (PW.pt (pw_and (pt_cmpR o_eqI (pe_call G_law_draw (hr.mono (by decide)) (by rfl) m_law_draw k_law_draw b_law_draw .nil pass0 (pa_cons (pv 0) (pa_cons (pv 1) (pa_cons pe_int pa_nil)))) pe_int (nomark _)) (pw_and (pt_cmpR o_inC (pv 2) (pe_txt (l := [90, 42]) (by decide +kernel)) (by rfl)) (pw_and1 (pt_cmpR o_ninC (pe_txt (l := [57]) (by decide +kernel)) (pv 3) (by rfl)))))) (pss_one (ps_set (i := 4) sc_law_an_edited.nd rfl (Or.inl rfl) (pe_op o_mulS (pv 2) (pe_op op_add pe_int (pe_call G_law_draw (hr.mono (by decide)) (by rfl) m_law_draw k_law_draw b_law_draw .nil pass0 (pa_cons (pv 0) (pa_cons (pv 1) (pa_cons pe_int pa_nil)))))))) pss_nil)
      (pss_cons (ps_set (i := 5) sc_law_an_edited.nd rfl (Or.inl rfl) (pe_ifExp (pt_cmpR o_ninC (pv 2) (pe_txt (l := [43, 45]) (by decide +kernel)) (by rfl)) (pe_lst (pa_cons (pe_txt (l := []) (by decide +kernel)) (pa_cons (pe_txt (l := [43]) (by decide +kernel)) (pa_cons (pe_txt (l := [45]) (by decide +kernel)) pa_nil)))) (pe_lst (pa_cons (pe_txt (l := []) (by decide +kernel)) pa_nil))))
      (pss_cons (ps_set (i := 6) sc_law_an_edited.nd rfl (Or.inl rfl) (pe_op o_addS (pe_ix ix_list (pv 5) (pe_call G_law_draw (hr.mono (by decide)) (by rfl) m_law_draw k_law_draw b_law_draw .nil pass0 (pa_cons (pv 0) (pa_cons (pv 1) (pa_cons (pe_callB call_len_seq (by rfl) T.len (by decide +kernel) (pa_cons (pv 5) pa_nil)) pa_nil)))) (fun _ _ => rfl)) (pe_ifExp (pt_cmpR o_neS (pv 2) (pe_txt (l := [36]) (by decide +kernel)) (nomark _)) (pe_ix ix_list (pe_lst (pa_cons (pe_txt (l := []) (by decide +kernel)) (pa_cons (pe_txt (l := [36]) (by decide +kernel)) pa_nil))) (pe_call G_law_draw (hr.mono (by decide)) (by rfl) m_law_draw k_law_draw b_law_draw .nil pass0 (pa_cons (pv 0) (pa_cons (pv 1) (pa_cons pe_int pa_nil)))) (fun _ _ => rfl)) (pe_txt (l := []) (by decide +kernel)))))
      (pss_cons (ps_set (i := 7) sc_law_an_edited.nd rfl (Or.inl rfl) (pe_txt (l := []) (by decide +kernel)))
      (pss_cons (ps_if (PW.pt (pw_and (pt_cmpR o_ninC (pv 2) (pe_txt (l := [43, 45]) (by decide +kernel)) (by rfl)) (pw_and1 (pt_cmpR op_notIn_seq (pe_slice sl_S (pv 6) po_none (po_some pe_int)) (pe_tup (pa_cons (pe_txt (l := [43]) (by decide +kernel)) (pa_cons (pe_txt (l := [45]) (by decide +kernel)) pa_nil))) (by rfl))))) (pss_one (ps_set (i := 7) sc_law_an_edited.nd rfl (Or.inl rfl) (pe_ix ix_list (pe_lst (pa_cons (pe_txt (l := []) (by decide +kernel)) (pa_cons (pe_txt (l := []) (by decide +kernel)) (pa_cons (pe_txt (l := [43]) (by decide +kernel)) (pa_cons (pe_txt (l := [45]) (by decide +kernel)) (pa_cons (pe_txt (l := [67, 82]) (by decide +kernel)) (pa_cons (pe_txt (l := [68, 66]) (by decide +kernel)) pa_nil))))))) (pe_call G_law_draw (hr.mono (by decide)) (by rfl) m_law_draw k_law_draw b_law_draw .nil pass0 (pa_cons (pv 0) (pa_cons (pv 1) (pa_cons pe_int pa_nil)))) (fun _ _ => rfl)))) pss_nil)
      (pss_cons (ps_if (PW.pt (pw_and (pt_cmpR o_eqS (pv 2) (pe_txt (l := [57]) (by decide +kernel)) (nomark _)) (pw_and (pt_cmpR o_eqS (pe_m1 PySem.F.slot_str_strip PySem.F.type_str_strip m_strip (pv 3) (pe_txt (l := [57]) (by decide +kernel))) (pe_txt (l := []) (by decide +kernel)) (nomark _)) (pw_and1 (pt_cmpR o_eqS (pe_op o_addS (pe_op o_addS (pv 6) (pv 4)) (pv 7)) (pe_txt (l := []) (by decide +kernel)) (nomark _)))))) (pss_one (ps_set (i := 7) sc_law_an_edited.nd rfl (Or.inl rfl) (pe_txt (l := [45]) (by decide +kernel)))) pss_nil)
      (pss_one (ps_ret (pe_tup (pa_cons (pv 6) (pa_cons (pv 2) (pa_cons (pv 3) (pa_cons (pv 4) (pa_cons (pv 7) pa_nil))))))))))))))))))), ?_⟩
    refine ⟨by show 8 ≤ sizeLine; decide, fun q hq => ⟨_, rfl, _, rfl, pickD (E := E0) [[57], [90], [42], [43], [45], [36], [90], [57]] hT (by decide) (by decide) rfl q hq fun l hl H1 hT1 c1 => ?_⟩⟩
    obtain ⟨f, hm, rfl⟩ := List.mem_map.mp (show l ∈ [57, 90, 42, 43, 45, 36, 90, 57].map fun c => [c] from hl)
    have hf6 := f6_of f hm
    have hfi := f6_ins hf6
    clear hm hl
    refine normS [some (.ref sc), some (.ref t), some (tS [f]), none, none, none, none, none] rfl ?_
    dsimp only
    refine stepC ⟨_, rfl, _, rfl, _, rfl, sc, t, r, ns, f, 4, rfl, hT1, hfi, by decide, by decide, fun w a H2 a1 a4 hp hw hl hT2 c2 => ?_⟩
    refine normS [some (.ref sc), some (.ref t), some (tS [f]), some (tS w), none, none, none, none] rfl ?_
    dsimp only
    have c2 := c1.trans c2
    refine stepC (cutSt (fun σ' H' => ∃ w a, σ' = [some (.ref sc), some (.ref t), some (tS [f]), some (tS w), none, none, none, none] ∧ plc w = List.replicate a f ∧ (∃ x, w = f :: x) ∧ w.length ≤ 13 ∧ 1 ≤ a ∧ a ≤ 4 ∧ (f ∈ FLT → 2 ≤ a) ∧ H' = H2) (fun σ' H' => ?_) (fun nx' g => ?_))
    rotate_left
    · have hc : w.count f = a := by rw [cnt_plc hfi, hp, List.count_replicate_self]
      refine ⟨_, rfl, f, FLT, rfl, rfl, _, rfl, iteC (fun h => ?_) (fun h => ?_)⟩
      · have h := of_decide_eq_true h
        refine ⟨_, rfl, ⟨_, rfl⟩, _, rfl, w, f, rfl, rfl, _, _, rfl, rfl, _, rfl, iteC (fun h2 => ?_) (fun h2 => ?_)⟩
        · have h2 := of_decide_eq_true h2
          refine ⟨_, rfl, _, rfl, [f], w, rfl, rfl, by show 1 + _ ≤ 1000; omega, g _ _ ⟨f :: w, a + 1, rfl, ?_, ⟨w, rfl⟩, by rw [List.length_cons]; omega, by omega, by omega, fun _ => by omega, rfl⟩⟩
          rw [plc_cons, if_neg hfi, hp, List.replicate_succ]
        · have h2 := of_decide_eq_false h2
          exact g _ _ ⟨w, a, rfl, hp, hw, by omega, a1, a4, fun _ => by omega, rfl⟩
      · have h := of_decide_eq_false h
        exact g _ _ ⟨w, a, rfl, hp, hw, by omega, a1, a4, fun z => absurd z h, rfl⟩
    clear hp hw hl a1 a4 w a
    rintro ⟨w, a, rfl, hp, hw, hl, a1, a4, a2, rfl⟩
    dsimp only
    refine stepC (cutSt (fun σ' H'' => ∃ w b, σ' = [some (.ref sc), some (.ref t), some (tS [f]), some (tS w), none, none, none, none] ∧ plc w = List.replicate a f ++ List.replicate b 57 ∧ b ≤ 3 ∧ (f = 57 → b = 0) ∧ (∃ x, w = f :: x) ∧ w.length ≤ 22 ∧ Tw K H'' sc t r ns ∧ Chg t r H H'') (fun σ' H3 => ?_) (fun nx' g => ?_))
    rotate_left
    · have stay : ∀ H3, Tw K H3 sc t r ns → Chg t r H' H3 → nx' [some (.ref sc), some (.ref t), some (tS [f]), some (tS w), none, none, none, none] H3 := fun H3 hT3 c3 => g _ _ ⟨w, 0, rfl, by rw [List.replicate_zero, List.append_nil]; exact hp, by decide, fun _ => rfl, hw, by omega, hT3, c2.trans c3⟩
      refine ⟨_, rfl, [f], [57], rfl, rfl, _, rfl, iteC (fun h => ?_) (fun h => ?_)⟩
      · have hn : [f] ≠ [57] := ndT h
        refine ⟨_, rfl, _, rfl, sc, t, r, ns, 2, rfl, hT2, by decide, by decide, fun z H3 hz hT3 c3 => ⟨_, _, rfl, rfl, _, rfl, iteC (fun h => ?_) (fun h => ?_)⟩⟩
        · refine ⟨_, rfl, _, rfl, _, rfl, sc, t, r, ns, 57, 3, rfl, hT3, by decide, by decide, by decide, fun w2 b H4 b1 b3 hp2 hw2 hl2 hT4 c4 => ⟨w, w2, rfl, rfl, by omega, g _ _ ⟨w ++ w2, b, rfl, by rw [plc_app, hp, hp2], b3, fun z => absurd (by rw [z]) hn, ?_, by rw [List.length_append]; omega, hT4, c2.trans (c3.trans c4)⟩⟩⟩
          obtain ⟨x, rfl⟩ := hw
          exact ⟨x ++ w2, rfl⟩
        · exact stay H3 hT3 c3
      · exact stay _ hT2 (Chg.refl _)
    clear hp hw hl w hT1 hT2 c2
    rintro ⟨w, b, rfl, hp, b3, b0, hw, hl, hT3, c3⟩
    dsimp only
    refine stepC ⟨by show 4 ≤ sizeLine; decide, fun q hq => ⟨_, rfl, _, rfl, pickD (E := E0) [[], [57], [57, 57], [57, 57, 57]] hT3 (by decide) (by decide) rfl q hq fun l hl H4 hT4 c4 => ?_⟩⟩
    have c4 := c3.trans c4
    obtain ⟨n, n3, rfl⟩ : ∃ n, n ≤ 3 ∧ l = List.replicate n 57 := by
      have := (show ∀ l ∈ ([[], [57], [57, 57], [57, 57, 57]] : List BX.T), l.length ≤ 3 ∧ l = List.replicate l.length 57 by decide) l hl
      exact ⟨l.length, this⟩
    refine normS [some (.ref sc), some (.ref t), some (tS [f]), some (tS w), some (tS (List.replicate n 57)), none, none, none] rfl ?_
    dsimp only
    refine stepC (cutSt (fun σ' H'' => ∃ br, σ' = [some (.ref sc), some (.ref t), some (tS [f]), some (tS w), some (tS br), none, none, none] ∧ ((∃ n, n ≤ 3 ∧ br = List.replicate n 57) ∨ ((f = 90 ∨ f = 42) ∧ 57 ∉ w ∧ ∃ n, n ≤ 3 ∧ br = List.replicate n f)) ∧ Tw K H'' sc t r ns ∧ Chg t r H H'') (fun σ' H5 => ?_) (fun nx' g => ?_))
    rotate_left
    · have stay : ∀ H3, Tw K H3 sc t r ns → Chg t r H4 H3 → nx' [some (.ref sc), some (.ref t), some (tS [f]), some (tS w), some (tS (List.replicate n 57)), none, none, none] H3 := fun H3 hT3 c3 => g _ _ ⟨_, rfl, .inl ⟨n, n3, rfl⟩, hT3, c4.trans c3⟩
      refine ⟨_, rfl, _, rfl, sc, t, r, ns, 3, rfl, hT4, by decide, by decide, fun z H5 hz hT5 c5 => ⟨_, _, rfl, rfl, _, rfl, iteC (fun h => ?_) (fun h => stay _ hT5 c5)⟩⟩
      refine ⟨_, rfl, f, [90, 42], rfl, rfl, _, rfl, iteC (fun h => ?_) (fun h => stay _ hT5 c5)⟩
      have h1 := of_decide_eq_true h
      refine ⟨_, rfl, 57, w, rfl, rfl, _, rfl, iteC (fun h => ?_) (fun h => stay _ hT5 c5)⟩
      have h2 : 57 ∉ w := ndT h
      refine ⟨_, rfl, _, rfl, _, rfl, sc, t, r, ns, 3, rfl, hT5, by decide, by decide, fun z2 H6 hz2 hT6 c6 => ⟨_, _, rfl, rfl, [f], 1 + z2, rfl, ?_, by show 1 ≤ 100; decide, by omega, ?_⟩⟩
      · show V.int (1 + (z2 : Int)) = V.int (((1 + z2 : Nat)) : Int)
        rw [Int.natCast_add]; rfl
      · refine g _ _ ⟨(List.replicate (1 + z2) [f]).flatten, rfl, .inr ⟨?_, h2, 1 + z2, by omega, rep_flat _ _⟩, hT6, c4.trans (c5.trans c6)⟩
        simpa using h1
    clear n3 n hl hT4 c4 hT3 c3
    rintro ⟨br, rfl, hbr, hT5, c5⟩
    dsimp only
    refine stepC (cutSt (fun σ' H'' => ∃ (q : Addr) (ls : List BX.T), σ' = [some (.ref sc), some (.ref t), some (tS [f]), some (tS w), some (tS br), some (.ref q), none, none] ∧ H'' q = some (.lst (ls.map tS)) ∧ 1 ≤ ls.length ∧ ls.length ≤ 100 ∧ ((ls = [[], [43], [45]] ∧ f ≠ 43 ∧ f ≠ 45) ∨ ls = [[]]) ∧ Tw K H'' sc t r ns ∧ Chg t r H H'') (fun σ' H6 => ?_) (fun nx' g => ?_))
    rotate_left
    · refine ⟨_, rfl, f, [43, 45], rfl, rfl, _, rfl, iteC (fun h => ?_) (fun h => ?_)⟩
      · have h : f ∉ [43, 45] := ndT h
        refine ⟨by show 3 ≤ sizeLine; decide, fun q hq => g _ _ ⟨q, [[], [43], [45]], rfl, upd_same, by decide, by decide, .inl ⟨rfl, fun z => h (by rw [z]; decide), fun z => h (by rw [z]; decide)⟩, hT5.same (sm_new (Same.refl _) hq), c5.trans (sm_new (Same.refl _) hq).chg⟩⟩
      · exact ⟨by show 1 ≤ sizeLine; decide, fun q hq => g _ _ ⟨q, [[]], rfl, upd_same, by decide, by decide, .inr rfl, hT5.same (sm_new (Same.refl _) hq), c5.trans (sm_new (Same.refl _) hq).chg⟩⟩
    clear hT5 c5
    rintro ⟨q, ls, rfl, hqs, ls1, ls2, hls, hT6, c6⟩
    dsimp only
    refine stepC (cutSt (fun σ' H'' => ∃ (q : Addr) (ld : BX.T), σ' = [some (.ref sc), some (.ref t), some (tS [f]), some (tS w), some (tS br), some (.ref q), some (tS ld), none] ∧ ld ∈ ([[], [43], [45], [36], [43, 36], [45, 36]] : List BX.T) ∧ (f = 43 ∨ f = 45 → 43 ∉ ld ∧ 45 ∉ ld) ∧ (f = 36 → 36 ∉ ld) ∧ Tw K H'' sc t r ns ∧ Chg t r H H'') (fun σ' H7 => ?_) (fun nx' g => ?_))
    rotate_left
    · refine ⟨_, rfl, _, rfl, _, rfl, _, rfl, q, ls.map tS, rfl, .inl (SqL.of hqs), sc, t, r, ns, (ls.map tS).length, rfl, hT6, by rw [List.length_map]; exact ls1, by rw [List.length_map]; exact ls2, fun z H7 hz hT7 c7 => ?_⟩
      have hz : z < ls.length := by rw [List.length_map] at hz; exact hz
      have hqt : q ≠ t := fun z => by
        obtain ⟨c, ht⟩ := hT6.tn
        rw [z, ht] at hqs; cases hqs
      have hqr : q ≠ r := fun z => by
        obtain ⟨c, ht, _⟩ := hT6.rs
        rw [z, ht] at hqs; cases hqs
      refine ⟨q, ls.map tS, z, _, rfl, rfl, SqL.of (c7 _ _ hqs hqt hqr), by rw [atI_nat, List.getElem?_map, List.getElem?_eq_getElem hz]; rfl, ?_⟩
      have hlm : ls[z] ∈ ls := List.getElem_mem hz
      generalize ls[z] = l1 at hlm
      have hl1 : (l1 = [] ∨ l1 = [43] ∨ l1 = [45]) ∧ (f = 43 ∨ f = 45 → l1 = []) := by
        rcases hls with ⟨rfl, f1, f2⟩ | rfl
        · refine ⟨by simpa using hlm, fun z => ?_⟩
          rcases z with z | z
          · exact absurd z f1
          · exact absurd z f2
        · have : l1 = [] := by simpa using hlm
          exact ⟨.inl this, fun _ => this⟩
      refine ⟨_, rfl, [f], [36], rfl, rfl, _, rfl, iteC (fun h => ?_) (fun h => ?_)⟩
      · have hn : [f] ≠ [36] := ndT h
        have hn : f ≠ 36 := fun z => hn (by rw [z])
        refine ⟨by show 2 ≤ sizeLine; decide, fun q hq => ⟨_, rfl, _, rfl, pickD (E := E0) [[], [36]] hT7 (by decide) (by decide) rfl q hq fun l2 hl2 H8 hT8 c8 => ?_⟩⟩
        have hl2 : l2 = [] ∨ l2 = [36] := by simpa using hl2
        refine ⟨l1, l2, rfl, rfl, ?_, g _ _ ⟨_, l1 ++ l2, rfl, ?_, fun z => ?_, fun z => absurd z hn, hT8, c6.trans (c7.trans c8)⟩⟩
        · rcases hl1.1 with rfl | rfl | rfl <;> rcases hl2 with rfl | rfl <;> decide
        · rcases hl1.1 with rfl | rfl | rfl <;> rcases hl2 with rfl | rfl <;> decide
        · rw [hl1.2 z]
          rcases hl2 with rfl | rfl <;> decide
      · refine ⟨l1, [], rfl, rfl, ?_, g _ _ ⟨_, l1 ++ [], rfl, ?_, fun z => ?_, fun z => ?_, hT7, c6.trans c7⟩⟩
        · rcases hl1.1 with rfl | rfl | rfl <;> decide
        · rcases hl1.1 with rfl | rfl | rfl <;> decide
        · rw [hl1.2 z]; decide
        · rcases hl1.1 with rfl | rfl | rfl <;> decide
    clear hls hT6 c6 hqs ls1 ls2 ls q
    rintro ⟨q, ld, rfl, hld, hl1, hl2, hT7, c7⟩
    dsimp only
    refine stepC ?_
    refine normS [some (.ref sc), some (.ref t), some (tS [f]), some (tS w), some (tS br), some (.ref q), some (tS ld), some (tS [])] rfl ?_
    dsimp only
    refine stepC (cutSt (fun σ' H'' => ∃ (tl : BX.T), σ' = [some (.ref sc), some (.ref t), some (tS [f]), some (tS w), some (tS br), some (.ref q), some (tS ld), some (tS tl)] ∧ tl ∈ ([[], [43], [45], [67, 82], [68, 66]] : List BX.T) ∧ (f = 43 ∨ f = 45 ∨ 43 ∈ ld ∨ 45 ∈ ld → tl = []) ∧ Tw K H'' sc t r ns ∧ Chg t r H H'') (fun σ' H8 => ?_) (fun nx' g => ?_))
    rotate_left
    · have stay : ∀ H3, Same H7 H3 → nx' [some (.ref sc), some (.ref t), some (tS [f]), some (tS w), some (tS br), some (.ref q), some (tS ld), some (tS [])] H3 := fun H3 s => g _ _ ⟨[], rfl, by decide, fun _ => rfl, hT7.same s, c7.trans s.chg⟩
      have hll : ld.length ≤ 2 := by
        rcases lead6 hld with rfl | rfl | rfl | rfl | rfl | rfl <;> decide
      refine ⟨_, rfl, f, [43, 45], rfl, rfl, _, rfl, iteC (fun h => ?_) (fun h => stay _ (Same.refl _))⟩
      have hf1 : f ∉ [43, 45] := ndT h
      refine ⟨_, rfl, _, rfl, ld, rfl, by omega, by show 2 ≤ sizeLine; decide, fun q2 hq2 => ⟨q2, _, rfl, .inr (SqT.of upd_same), rfl, rfl, _, rfl, ?_⟩⟩
      have s8 := sm_new (o := .tup [tS [43], tS [45]]) (Same.refl H7) hq2
      have e1 : cutL ld none (some 1) = ld.take 1 := cutL_take ld 1
      refine iteC (fun h => ?_) (fun h => stay _ s8)
      have h : (!inV (tS (cutL ld none (some 1))) [tS [43], tS [45]]) = true := h
      rw [e1, inV_two] at h
      have h := ndT h
      have hT8 := hT7.same s8
      have c8 := c7.trans s8.chg
      refine ⟨by show 6 ≤ sizeLine; decide, fun q hq => ⟨_, rfl, _, rfl, pickD (E := E0) [[], [], [43], [45], [67, 82], [68, 66]] hT8 (by decide) (by decide) rfl q hq fun l2 hl2 H9 hT9 c9 => ?_⟩⟩
      refine g _ _ ⟨l2, rfl, ?_, fun z => ?_, hT9, c8.trans c9⟩
      · exact (show ∀ l2 ∈ ([[], [], [43], [45], [67, 82], [68, 66]] : List BX.T), l2 ∈ ([[], [43], [45], [67, 82], [68, 66]] : List BX.T) by decide) l2 hl2
      · exfalso
        rcases z with z | z | z
        · exact hf1 (by rw [z]; decide)
        · exact hf1 (by rw [z]; decide)
        · revert z h
          rcases lead6 hld with rfl | rfl | rfl | rfl | rfl | rfl <;> decide
    clear hT7 c7
    rintro ⟨tl, rfl, htl, ht1, hT8, c8⟩
    dsimp only
    have hbl : br.length ≤ 3 := by
      rcases hbr with ⟨n, hn, rfl⟩ | ⟨_, _, n, hn, rfl⟩ <;> (rw [List.length_replicate]; exact hn)
    have hll : ld.length ≤ 2 := by
      rcases lead6 hld with rfl | rfl | rfl | rfl | rfl | rfl <;> decide
    have htl2 : tl.length ≤ 2 := by
      rcases tail5 htl with rfl | rfl | rfl | rfl | rfl <;> decide
    refine stepC (cutSt (fun σ' H'' => ∃ (tl : BX.T), σ' = [some (.ref sc), some (.ref t), some (tS [f]), some (tS w), some (tS br), some (.ref q), some (tS ld), some (tS tl)] ∧ Dr ⟨ld, w, br, tl, f⟩ ∧ H'' = H8) (fun σ' H9 => ?_) (fun nx' g => ?_))
    rotate_left
    · have mk : ∀ tl, tl ∈ ([[], [43], [45], [67, 82], [68, 66]] : List BX.T) → (f = 43 ∨ f = 45 ∨ 43 ∈ ld ∨ 45 ∈ ld → tl = []) → ¬ (f = 57 ∧ ld = [] ∧ br = [] ∧ tl = [] ∧ ∀ c ∈ w, c = 57) → Dr ⟨ld, w, br, tl, f⟩ := fun tl a b c =>
        { f6 := hf6, hd := hw, pl := ⟨_, _, hp, a1, a2, by omega, b0⟩, br := hbr, ld := hld, l1 := hl1, l2 := hl2, tl := a, t1 := b, nn := c, ln := by show w.length ≤ 40; omega }
      refine ⟨_, rfl, [f], [57], rfl, rfl, _, rfl, iteC (fun h => ?_) (fun h => ?_)⟩
      · have hf : [f] = [57] := of_decide_eq_true h
        have hf : f = 57 := by simpa using hf
        refine ⟨_, rfl, ⟨_, rfl⟩, w, [57], rfl, rfl, by omega, _, _, rfl, rfl, _, rfl, iteC (fun h => ?_) (fun h => ?_)⟩
        · refine ⟨_, rfl, _, rfl, ld, br, rfl, rfl, by omega, _, rfl, _, _, rfl, rfl, by rw [List.length_append]; omega, _, _, rfl, rfl, _, rfl, iteC (fun h => ?_) (fun h => ?_)⟩
          · have h : ld ++ br ++ tl = [] := of_decide_eq_true h
            have h1 := List.append_eq_nil_iff.mp h
            have h2 := List.append_eq_nil_iff.mp h1.1
            refine g _ _ ⟨[45], rfl, mk [45] (by decide) (fun z => ?_) (fun z => by cases z.2.2.2.1), rfl⟩
            rw [hf, h2.1] at z
            revert z
            decide
          · have h : ld ++ br ++ tl ≠ [] := of_decide_eq_false h
            exact g _ _ ⟨tl, rfl, mk tl htl ht1 (fun z => h (by rw [z.2.1, z.2.2.1, z.2.2.2.1]; rfl)), rfl⟩
        · have h : stripL w [57] ≠ [] := of_decide_eq_false h
          exact g _ _ ⟨tl, rfl, mk tl htl ht1 (fun z => h (stripL_nil fun c m => by rw [z.2.2.2.2 c m]; decide)), rfl⟩
      · have h : [f] ≠ [57] := of_decide_eq_false h
        exact g _ _ ⟨tl, rfl, mk tl htl ht1 (fun z => h (by rw [z.1])), rfl⟩
    rintro ⟨tl, rfl, hD, rfl⟩
    dsimp only
    refine ⟨_, rfl, _, rfl, _, rfl, _, rfl, _, rfl, by show 5 ≤ sizeLine; decide, fun q hq => k _ q _ hD upd_same (hT8.same (sm_new (Same.refl _) hq)) (c8.trans (sm_new (Same.refl _) hq).chg)⟩
abbrev s_law_line : Stmt := top 43
theorem sc_law_line : FnScope ["_law_parts", "_law_lead", "_law_first", "_law_whole", "_law_broken", "_law_tail"] ["_law_parts"] (defScope s_law_line) := ⟨rfl, rfl, rfl, by decide +kernel, rfl, by decide +kernel, by decide +kernel⟩
theorem ok_law_line {P : Program} {w : World} {K : PySem.W.Frag} {mg : Str → Option Value} {base : Heap} {f C : Addr} {fd : FuncData} (F : Fun K "_law_line" "_law_line" s_law_line f fd) (T : Txt K mg C) :
    FnOk P w K mg base CX0 1 f fd ["_law_parts"] (spLine K) := by
  refine F.ok sc_law_line (fun vs H Q E h => ?_) (fun cdv A outer s H vs Q E hr h => ?_)
  · obtain ⟨p, a, rfl, hd, hS, k⟩ := h
    rfl
  · obtain ⟨p, a, rfl, hd, hS, k⟩ := h
    refine ⟨_, (pss_cons (ps_asg (pv 0) (pg_tup rfl (pgs_cons (pg_name (i := 1) sc_law_line.nd rfl (Or.inl rfl)) (pgs_cons (pg_name (i := 2) sc_law_line.nd rfl (Or.inl rfl)) (pgs_cons (pg_name (i := 3) sc_law_line.nd rfl (Or.inl rfl)) (pgs_cons (pg_name (i := 4) sc_law_line.nd rfl (Or.inl rfl)) (pgs_cons (pg_name (i := 5) sc_law_line.nd rfl (Or.inl rfl)) pgs_nil)))))))
      (pss_one (ps_ret (pe_op o_addS (pe_op o_addS (pe_op o_addS (pv 1) (pv 3)) (pe_ifExp (pt_cmpR o_neS (pv 4) (pe_txt (l := []) (by decide +kernel)) (nomark _)) (pe_op o_addS (pe_txt (l := [46]) (by decide +kernel)) (pv 4)) (pe_txt (l := []) (by decide +kernel)))) (pv 5))))), ?_⟩
    have ll := line_len hd
    have lw := hd.ln
    have l1 := lead_len hd
    have l2 := tail_len hd
    have l3 := br_len hd
    refine ⟨_, rfl, a, _, rfl, hS, rfl, _, _, rfl, _, _, rfl, _, _, rfl, _, _, rfl, _, _, rfl, rfl, ?_⟩
    refine ⟨_, rfl, _, rfl, _, _, rfl, rfl, by omega, ?_⟩
    have k0 := k H (Same.refl _)
    unfold line dot at k0
    refine ⟨_, rfl, p.broken, [], rfl, rfl, _, rfl, ?_⟩
    refine iteC (fun h => ?_) (fun h => ?_)
    · have h : p.broken ≠ [] := ndT h
      rw [if_neg h] at k0
      refine ⟨_, rfl, [46], p.broken, rfl, rfl, by show 1 + _ ≤ 1000; omega, _, _, rfl, rfl, ?_, _, rfl, _, _, rfl, rfl, ?_, k0⟩
      · rw [List.length_append]; show _ + (p.broken.length + 1) ≤ 1000; omega
      · rw [List.length_append, List.length_append]; show _ + (p.broken.length + 1) + _ ≤ 1000; omega
    · have h : p.broken = [] := ndF h
      rw [if_pos h] at k0
      refine ⟨_, _, rfl, rfl, ?_, _, rfl, _, _, rfl, rfl, ?_, k0⟩
      · rw [List.length_append]; show _ + 0 ≤ 1000; omega
      · rw [List.length_append, List.length_append]; show _ + 0 + _ ≤ 1000; omega
abbrev s_law : Stmt := top 44
theorem sc_law : FnScope ["_law_script", "_law_town", "_law_k", "_law_line_here", "_law_shows", "_law_before", "_law_behind", "_law_many", "_law_seen", "_law_whole", "_law_units", "_law_told", "_law_alike"] ["_law_script"] (defScope s_law) := ⟨rfl, rfl, rfl, by decide +kernel, rfl, by decide +kernel, by decide +kernel⟩
def pZ : P := ⟨[], [90, 57], [], [], 90⟩
def pN : P := ⟨[45], [90, 57], [], [], 90⟩
theorem dZ : Dr pZ where
  f6 := by decide
  hd := ⟨[57], rfl⟩
  pl := ⟨1, 1, by decide, by decide, by decide, by decide, by decide⟩
  br := .inl ⟨0, by decide, rfl⟩
  ld := by decide
  l1 := by decide
  l2 := by decide
  tl := by decide
  t1 := by decide
  nn := by decide
  ln := by decide
theorem dN : Dr pN where
  f6 := by decide
  hd := ⟨[57], rfl⟩
  pl := ⟨1, 1, by decide, by decide, by decide, by decide, by decide⟩
  br := .inl ⟨0, by decide, rfl⟩
  ld := by decide
  l1 := by decide
  l2 := by decide
  tl := by decide
  t1 := by decide
  nn := by decide
  ln := by decide
theorem vZ : (if shows pZ = true then ((10 ^ whl pZ : Nat) : Int) * 2 - 1 else ((10 ^ whl pZ : Nat) : Int)) = 100 := by decide
theorem vN : (if shows pN = true then ((10 ^ whl pN : Nat) : Int) * 2 - 1 else ((10 ^ whl pN : Nat) : Int)) = 199 := by decide
theorem same_list {K : PySem.W.Frag} {H H' : Hp} {a : Addr} {xs : List V} (e : Same H H') (h : SqL K H a xs) : SqL K H' a xs := by
  rcases h with (h | ⟨o, h⟩) | h
  · exact .inl (.inl (e _ _ h))
  · exact .inl (.inr ⟨o, e _ _ h⟩)
  · exact .inr h
theorem sh2 (i j : Int) : SeqAt.shaped (.tuple [.int i, .int j]) = true := rfl
theorem eqv2 (i j : Int) : PyData.eqv (.tuple [.int i, .int j]) (.tuple [.int i, .int j]) = true := by
  show ((i == i) && ((j == j) && true)) = true
  rw [beq_self_eq_true, beq_self_eq_true]; rfl
theorem tNx {σ : L2.St} {H : Hp} {D : Ends} (h : D.nx σ H) : tNext D σ H := h
theorem ok_law {P : Program} {w : World} {K : PySem.W.Frag} {mg : Str → Option Value} {base : Heap} {f C : Addr} {fd : FuncData} (F : Fun K "law" "law" s_law f fd) (T : Txt K mg C) (C_law_begun : Cal P w K mg base "_law_begun" 1 [] spBegun) (C_law_line : Cal P w K mg base "_law_line" 1 ["_law_parts"] (spLine K)) (C_law_an_edited : Cal P w K mg base "_law_an_edited" 3 ["_law_script", "_law_town"] (spAnEd K)) (C_room : Cal P w K mg base "room" 7 ["picture"] spRoom) (C_texts_in_all : CalK P w K mg base "texts_in_all" 9 ["picture"] spTexts) (C_edited : Cal P w K mg base "edited" 9 ["picture", "amount"] (spEdited K)) (C_read_edited : Cal P w K mg base "read_edited" 10 ["picture", "text"] spRead) :
    FnOk P w K mg base CX0 11 f fd ["_law_script"] (spLaw K) := by
  obtain ⟨f_law_begun, fd_law_begun, G_law_begun, m_law_begun, k_law_begun, b_law_begun⟩ := C_law_begun.ex
  obtain ⟨f_law_line, fd_law_line, G_law_line, m_law_line, k_law_line, b_law_line⟩ := C_law_line.ex
  obtain ⟨f_law_an_edited, fd_law_an_edited, G_law_an_edited, m_law_an_edited, k_law_an_edited, b_law_an_edited⟩ := C_law_an_edited.ex
  obtain ⟨f_room, fd_room, G_room, m_room, k_room, b_room⟩ := C_room.ex
  obtain ⟨f_texts_in_all, fd_texts_in_all, G_texts_in_all, m_texts_in_all, k_texts_in_all, b_texts_in_all, kb_texts_in_all⟩ := C_texts_in_all.ex
  obtain ⟨f_edited, fd_edited, G_edited, m_edited, k_edited, b_edited⟩ := C_edited.ex
  obtain ⟨f_read_edited, fd_read_edited, G_read_edited, m_read_edited, k_read_edited, b_read_edited⟩ := C_read_edited.ex
  refine F.ok sc_law (fun vs H Q E h => ?_) (fun cdv A outer s H vs Q E hr h => ?_)
  · obtain ⟨sc, ns, rfl, hS, hn, k⟩ := h
    rfl
  · obtain ⟨sc, ns, rfl, hS, hn, k⟩ := h
    refine ⟨_, (pss_cons (ps_set (i := 1) sc_law.nd rfl (Or.inl rfl) (pe_call0 G_law_begun (hr.mono (by decide)) (by rfl) m_law_begun k_law_begun b_law_begun .nil pass0))
      (pss_cons (ps_for PassesOwn.never rfl (pi_range1 (by rfl) T.range (pa_cons pe_int pa_nil)) (pg_name (i := 2) sc_law.nd rfl (Or.inl rfl)) (pss_cons (ps_set (i := 3) sc_law.nd rfl (Or.inl rfl) (pe_call G_law_line (hr.mono (by decide)) (by rfl) m_law_line k_law_line b_law_line .nil pass0 (pa_cons (pe_call G_law_an_edited (hr.mono (by decide)) (by rfl) m_law_an_edited k_law_an_edited b_law_an_edited .nil pass0 (pa_cons (pv 0) (pa_cons (pv 1) pa_nil))) pa_nil)))
      (pss_cons (ps_asg (pe_call G_room (hr.mono (by decide)) (by rfl) m_room k_room b_room .nil pass0 (pa_cons (pv 3) pa_nil)) (pg_tup rfl (pgs_cons (pg_name (i := 4) sc_law.nd rfl (Or.inl rfl)) (pgs_cons (pg_name (i := 5) sc_law.nd rfl (Or.inl rfl)) (pgs_cons (pg_name (i := 6) sc_law.nd rfl (Or.inl rfl)) pgs_nil)))))
      (pss_cons (ps_if (pt_cmpR op_gt (pe_op op_add (pv 5) (pv 6)) pe_int (nomark _)) (pss_cons (ps_set (i := 7) sc_law.nd rfl (Or.inl rfl) (pe_call G_texts_in_all (hr.mono (by decide)) (by rfl) m_texts_in_all k_texts_in_all b_texts_in_all .nil pass0 (pa_cons (pv 3) pa_nil)))
      (pss_cons (ps_if (pt_cmpR o_neI (pv 7) (pe_op op_sub (pe_op op_mul (pe_callTy call_intS (by rfl) T.int (by decide +kernel) (pa_cons (pe_op o_addS (pe_txt (l := [49]) (by decide +kernel)) (pe_op o_mulS (pe_txt (l := [48]) (by decide +kernel)) (pe_op op_add (pv 5) (pv 6)))) pa_nil)) (pe_ifExp (pt_val (pv 4)) pe_int pe_int)) (pe_ifExp (pt_val (pv 4)) pe_int pe_int)) (nomark _)) (pss_one (ps_ret pe_bl)) pss_nil)
      (pss_one ps_continue))) pss_nil)
      (pss_cons (ps_par (i := 8) (j := 9) rfl sc_law.nd rfl rfl (by decide) rfl rfl (pa_cons pe_dnewK (pa_cons (pe_callTy call_intS (by rfl) T.int (by decide +kernel) (pa_cons (pe_op o_addS (pe_txt (l := [49]) (by decide +kernel)) (pe_op o_mulS (pe_txt (l := [48]) (by decide +kernel)) (pe_op op_add (pv 5) (pv 6)))) pa_nil)) pa_nil)) (by rfl))
      (pss_cons (ps_for PassesOwn.never rfl (pi_range2 (by rfl) T.range (pa_cons (pe_op op_sub pe_int (pv 9)) (pa_cons (pv 9) pa_nil))) (pg_name (i := 10) sc_law.nd rfl (Or.inl rfl)) (pss_cons (ps_set (i := 11) sc_law.nd rfl (Or.inl rfl) (pe_call G_edited (hr.mono (by decide)) (by rfl) m_edited k_edited b_edited .nil pass0 (pa_cons (pv 3) (pa_cons (pe_tup (pa_cons (pv 10) (pa_cons (pv 6) pa_nil))) pa_nil))))
      (pss_one (ps_dput (hu_of hr) (pv 8) (pv 11) (pe_op op_cat (pe_dget2 (hu_of hr) (pv 8) (pv 11) (pe_lst pa_nil) ⟨by rfl, by rfl, by rfl, by rfl⟩) (pe_lst (pa_cons (pv 10) pa_nil))) rfl))))
      (pss_cons (ps_if (pt_cmpR o_neI (pe_callB call_lenD (by rfl) T.len (by decide +kernel) (pa_cons (pv 8) pa_nil)) (pe_callK0 G_texts_in_all (hr.mono (by decide)) (by rfl) m_texts_in_all k_texts_in_all kb_texts_in_all pass0 (pk_cons (pv 3) pk_nil)) (nomark _)) (pss_one (ps_ret pe_bl)) pss_nil)
      (pss_one (ps_lock (ps_for PassesOwn.never rfl (pi_keys (pv 8)) (pg_name (i := 11) sc_law.nd rfl (Or.inl rfl)) (pss_cons (ps_set (i := 12) sc_law.nd rfl (Or.inr rfl) (pe_dget (hu_of hr) (pv 8) (pv 11) (fun _ _ => rfl)))
      (pss_cons (ps_if (PW.pt (pw_or (PW.pt (pw_and (pt_val (pv 4)) (pw_and1 (pt_cmpR o_neI (pe_callB call_len_seq (by rfl) T.len (by decide +kernel) (pa_cons (pv 12) pa_nil)) pe_int (nomark _))))) (pw_or1 (pt_cmpR (op_neD hr.units) (pe_lc (own := [("_law_units", 10)]) rfl sc_law.nd (pi_list (pv 12)) (blkOk_by (N := ["_law_script", "_law_town", "_law_k", "_law_line_here", "_law_shows", "_law_before", "_law_behind", "_law_many", "_law_seen", "_law_whole", "_law_units", "_law_told", "_law_alike"]) (sc := defScope s_law) (by decide +kernel)) (fun _ _ _ _ _ => (pg_name (i := 10) sc_law.nd rfl (Or.inl rfl))) (fun _ _ _ _ _ => pts_one (pt_cmpR o_neI (pe_callB call_abs (by rfl) T.abs (by decide +kernel) (pa_cons (pv 10) pa_nil)) (pe_callB call_abs (by rfl) T.abs (by decide +kernel) (pa_cons (pe_ix (show IxR _ (rIxL K) from ix_list) (pv 12) pe_int (fun _ _ => rfl)) pa_nil)) (nomark _))) (fun _ _ _ _ _ => (pv 10))) (pe_lst pa_nil) (nomark _))))) (pss_one (ps_ret pe_bl)) pss_nil)
      (pss_one (ps_if (pt_cmpR (op_neD hr.units) (pe_call G_read_edited (hr.mono (by decide)) (by rfl) m_read_edited k_read_edited b_read_edited .nil pass0 (pa_cons (pv 3) (pa_cons (pv 11) pa_nil))) (pe_tup (pa_cons (pe_callB (cr_max rfl) (by rfl) T.max (by decide +kernel) (pa_cons (pv 12) pa_nil)) (pa_cons (pv 6) pa_nil))) (nomark _)) (pss_one (ps_ret pe_bl)) pss_nil))))))))))))))
      (pss_one (ps_ret (pe_and (pe_cmpR o_eqI (pe_call G_texts_in_all (hr.mono (by decide)) (by rfl) m_texts_in_all k_texts_in_all b_texts_in_all .nil pass0 (pa_cons (pe_txt (l := [90, 57]) (by decide +kernel)) pa_nil)) pe_int (nomark _)) (pe_one (pe_cmpR o_eqI (pe_call G_texts_in_all (hr.mono (by decide)) (by rfl) m_texts_in_all k_texts_in_all b_texts_in_all .nil pass0 (pa_cons (pe_txt (l := [45, 90, 57]) (by decide +kernel)) pa_nil)) pe_int (nomark _)))))))), ?_⟩
    refine stepC ⟨rfl, fun t r H1 s1 ht hr1 ht0 hr0 => ?_⟩
    have hT : Tw K H1 sc t r ns := ⟨same_list s1 hS, hn, ⟨0, ht⟩, ⟨[], hr1, List.nodup_nil, fun kv m => by cases m⟩⟩
    refine normS [some (.ref sc), some (.ref t), none, none, none, none, none, none, none, none, none, none, none] rfl ?_
    dsimp only
    clear hS s1 ht hr1 ht0 hr0
    refine stepC ⟨3, rfl, by decide, by decide, for_range (lo := 0) (n := 3) (fun i σ H' => (∃ o2 o3 o4 o5 o6 o7 o8 o9 o10 o11 o12 : Option V, σ = [some (.ref sc), some (.ref t), o2, o3, o4, o5, o6, o7, o8, o9, o10, o11, o12]) ∧ Tw K H' sc t r ns) ⟨⟨none, none, none, none, none, none, none, none, none, none, none, rfl⟩, hT⟩ ?_ ?_⟩
    rotate_left
    · rintro σ H2 ⟨⟨o2, o3, o4, o5, o6, o7, o8, o9, o10, o11, o12, rfl⟩, hT2⟩
      refine ⟨pZ, rfl, dZ, fun H3 s3 => ?_⟩
      rw [vZ]
      refine ⟨_, _, rfl, rfl, _, rfl, iteE rfl ⟨pN, rfl, dN, fun H4 s4 => ?_⟩⟩
      rw [vN]
      exact ⟨_, _, rfl, rfl, k H4⟩
    clear hT
    rintro i0 σ H1 hi0 ⟨⟨o2, o3, o4, o5, o6, o7, o8, o9, o10, o11, o12, rfl⟩, hT⟩
    refine normS [some (.ref sc), some (.ref t), some (.int (0 + (i0 : Int))), o3, o4, o5, o6, o7, o8, o9, o10, o11, o12] rfl ?_
    dsimp only
    refine stepC ⟨_, rfl, _, rfl, sc, t, r, ns, rfl, hT, fun p ap H2 hd hap hT2 c2 => ⟨p, ap, rfl, hd, SqT.of hap, fun H3 s3 => ?_⟩⟩
    refine normS [some (.ref sc), some (.ref t), some (.int (0 + (i0 : Int))), some (tS (line p)), o4, o5, o6, o7, o8, o9, o10, o11, o12] rfl ?_
    dsimp only
    refine stepC ⟨_, rfl, p, rfl, hd, fun rt H4 s4 hrt => ⟨rt, _, rfl, SqT.of hrt, rfl, _, _, rfl, _, _, rfl, _, _, rfl, rfl, ?_⟩⟩
    refine normC [some (.ref sc), some (.ref t), some (.int (0 + (i0 : Int))), some (tS (line p)), some (.bl (shows p)), some (.int (bef p)), some (.int (beh p)), o7, o8, o9, o10, o11, o12] rfl ?_
    dsimp only
    have hT4 := hT2.same (s3.trans s4)
    have bp := bef_pos hd
    have l3 : beh p ≤ 3 := br_len hd
    have hwl : whl p = bef p + beh p := rfl
    have tk := ten_ok (whl p) (by omega)
    have eW : V.int ((bef p : Int) + (beh p : Int)) = V.int ((whl p : Nat) : Int) := by rw [hwl, Int.natCast_add]
    clear hT c2 hap hT2 s3 hrt s4
    refine stepC ⟨_, rfl, _, rfl, _, _, rfl, rfl, _, _, rfl, rfl, _, rfl, ?_⟩
    refine iteC (fun h => ?_) (fun h => ?_)
    · refine stepC ⟨_, rfl, p, rfl, hd, fun H5 s5 => ?_⟩
      refine normS [some (.ref sc), some (.ref t), some (.int (0 + (i0 : Int))), some (tS (line p)), some (.bl (shows p)), some (.int (bef p)), some (.int (beh p)), some (.int (if shows p = true then ((10 ^ whl p : Nat) : Int) * 2 - 1 else ((10 ^ whl p : Nat) : Int))), o8, o9, o10, o11, o12] rfl ?_
      dsimp only
      refine stepC (cutIf false (fun H6 s6 => ?_) (fun Q' g => ?_))
      · exact ⟨⟨_, _, _, _, _, _, _, _, _, _, _, rfl⟩, hT4.same (s5.trans s6)⟩
      · refine ⟨_, rfl, _, rfl, _, rfl, _, _, rfl, rfl, [48], whl p, rfl, eW, by show 1 ≤ 100; decide, by omega, [49], _, rfl, rfl, ?_, _, rfl, tk.1, tk.2.1, tk.2.2, _, rfl, _, rfl, ?_⟩
        · have := tk.2.2
          rw [List.length_append] at this
          show 1 + _ ≤ 1000
          exact Nat.le_trans this (by decide)
        · rw [num_ten]
          refine iteC (fun h => ?_) (fun h => ?_)
          · rw [if_pos h]
            refine ⟨_, _, rfl, rfl, .inr ⟨by decide, by decide⟩, _, rfl, _, rfl, iteE h ⟨_, _, rfl, rfl, _, _, rfl, rfl, _, rfl, ?_⟩⟩
            rw [decide_eq_true rfl]
            exact g _ (Same.refl _)
          · rw [if_neg (by rw [h]; decide)]
            refine ⟨_, _, rfl, rfl, .inr ⟨by decide, by decide⟩, _, rfl, _, rfl, iteN h ⟨_, _, rfl, rfl, _, _, rfl, rfl, _, rfl, ?_⟩⟩
            rw [decide_eq_true (show ((10 ^ whl p : Nat) : Int) = ((10 ^ whl p : Nat) : Int) * 1 - 0 by omega)]
            exact g _ (Same.refl _)
    have h := of_decide_eq_false h
    have h2 : whl p ≤ 2 := by omega
    have hW100 : 10 ^ whl p ≤ 100 := Nat.le_trans (Nat.pow_le_pow_right (by decide) h2) (by decide)
    have hW1 : 1 ≤ 10 ^ whl p := Nat.pow_pos (by decide)
    refine stepN (fun d hd0 => ⟨_, rfl, _, rfl, _, _, rfl, rfl, [48], whl p, rfl, eW, by show 1 ≤ 100; decide, by omega, [49], _, rfl, rfl, ?_, _, rfl, tk.1, tk.2.1, tk.2.2, _, _, rfl, ?_⟩)
    · have := tk.2.2
      rw [List.length_append] at this
      show 1 + _ ≤ 1000
      exact Nat.le_trans this (by decide)
    rw [num_ten]
    clear tk eW
    generalize hW : 10 ^ whl p = W at *
    have hW := hW.symm
    refine normC [some (.ref sc), some (.ref t), some (.int (0 + (i0 : Int))), some (tS (line p)), some (.bl (shows p)), some (.int (bef p)), some (.int (beh p)), o7, some (.ref d), some (.int (W : Int)), o10, o11, o12] rfl ?_
    dsimp only
    refine stepC ⟨_, rfl, _, _, rfl, rfl, _, rfl, 1 - (W : Int), (W : Int), rfl, ⟨by omega, by omega, by omega, by omega⟩, ?_⟩
    rw [show ((W : Int) - (1 - (W : Int))).toNat = 2 * W - 1 by omega]
    refine for_range (lo := 1 - (W : Int)) (n := 2 * W - 1) (fun i σ H' => (∃ o10 o11 : Option V, σ = [some (.ref sc), some (.ref t), some (.int (0 + (i0 : Int))), some (tS (line p)), some (.bl (shows p)), some (.int (bef p)), some (.int (beh p)), o7, some (.ref d), some (.int (W : Int)), o10, o11, o12]) ∧ Same H4 H' ∧ ∃ kvs, H' d = some (.dK kvs) ∧ GI H' kvs p W i) ⟨⟨_, _, rfl⟩, sm_new (Same.refl _) hd0, [], upd_same, GI.zero⟩ ?_ ?_
    · clear o10 o11
      rintro i σ H6 hi ⟨⟨o10, o11, rfl⟩, s6, kvs, hd6, gi⟩
      refine normS [some (.ref sc), some (.ref t), some (.int (0 + (i0 : Int))), some (tS (line p)), some (.bl (shows p)), some (.int (bef p)), some (.int (beh p)), o7, some (.ref d), some (.int (W : Int)), some (.int (un W i)), o11, o12] rfl ?_
      dsimp only
      have hu : (un W i).natAbs < 10 ^ whl p := by rw [← hW]; exact un_lt hi
      refine stepC ⟨_, rfl, _, rfl, _, rfl, by show 2 ≤ sizeLine; decide, fun ta hta => ⟨p, ta, un W i, rfl, hd, by omega, SqT.of upd_same, hu, fun H7 s7 => ?_⟩⟩
      refine normS [some (.ref sc), some (.ref t), some (.int (0 + (i0 : Int))), some (tS (line p)), some (.bl (shows p)), some (.int (bef p)), some (.int (beh p)), o7, some (.ref d), some (.int (W : Int)), some (.int (un W i)), some (tS (tx p (un W i))), o12] rfl ?_
      dsimp only
      have s67 : Same H6 H7 := (sm_new (Same.refl _) hta).trans s7
      have hd7 := s67 _ _ hd6
      have g7 := gi.same s67
      have s47 := s6.trans s67
      have key : ∀ q, H7 q = none → ∃ l, (valV kvs (.inr (S (tx p (un W i))))).getD (.ref q) = .ref l ∧ (upd H7 q (.lst [])) l = some (.lst ((grp p W i (tx p (un W i))).map V.int)) := fun q hq => by
        rcases g7.get (tx p (un W i)) with ⟨a, e1, e2, _⟩ | ⟨e1, e2, _⟩
        · exact ⟨a, by rw [e1]; rfl, by rw [upd_ne (ne_of_none e2 hq)]; exact e2⟩
        · exact ⟨q, by rw [e1]; rfl, by rw [e2]; exact upd_same⟩
      refine ⟨_, rfl, d, rfl, .inl ⟨kvs, .inl hd7⟩, _, rfl, by show 0 ≤ sizeLine; decide, fun q hq => ?_⟩
      obtain ⟨l, el, hl⟩ := key q hq
      have s8 := sm_new (o := .lst []) (Same.refl H7) hq
      refine ⟨valV kvs (.inr (S (tx p (un W i)))), .inl ⟨kvs, _, .inl (s8 _ _ hd7), rfl, rfl⟩, ?_⟩
      rw [el]
      refine ⟨_, rfl, by show 1 ≤ sizeLine; decide, fun b hb => ?_⟩
      have s9 := s8.trans (sm_new (o := .lst [.int (un W i)]) (Same.refl _) hb)
      have hl9 := (sm_new (o := .lst [.int (un W i)]) (Same.refl _) hb) _ _ hl
      refine ⟨l, b, _, _, rfl, rfl, hl9, upd_same, ?_, fun q2 hq2 => ?_⟩
      · have h1 : (grp p W i (tx p (un W i))).length ≤ i := by
          unfold grp
          refine Nat.le_trans (List.length_filter_le _ _) ?_
          unfold units
          rw [List.length_map, List.length_range]
          exact Nat.le_refl _
        rw [List.length_map]
        show _ + 1 ≤ sizeLine
        exact Nat.le_trans (show _ ≤ 1000 by omega) (by decide)
      have s10 := s9.trans (sm_new (o := .lst ((grp p W i (tx p (un W i))).map V.int ++ [.int (un W i)])) (Same.refl _) hq2)
      have hq10 : (upd (upd (upd H7 q (.lst [])) b (.lst [.int (un W i)])) q2 (.lst ((grp p W i (tx p (un W i))).map V.int ++ [.int (un W i)]))) q2 = some (.lst ((grp p W i (tx p (un W i)) ++ [un W i]).map V.int)) := by
        rw [upd_same, List.map_append]; rfl
      generalize upd (upd (upd H7 q (.lst [])) b (.lst [.int (un W i)])) q2 (.lst ((grp p W i (tx p (un W i))).map V.int ++ [.int (un W i)])) = H8 at s10 hq10 ⊢
      have hd8 := s10 _ _ hd7
      have hlen : kvs.length < sizeLine := by
        have := g7.len
        exact Nat.lt_of_le_of_lt (show _ ≤ 1000 by omega) (by decide)
      refine ⟨_, rfl, _, rfl, d, _, rfl, .inl ⟨kvs, .inr (S (tx p (un W i))), hd8, rfl, hlen, rfl⟩, ⟨_, _, rfl⟩, sm_mut (s47.trans s10) hd0, _, upd_same, ?_⟩
      exact ((g7.same s10).step hd hW hi hq10).at hd8
    clear o10 o11
    rintro σ H6 ⟨⟨o10, o11, rfl⟩, s6, kvs, hd6, gi⟩
    dsimp only
    refine stepC (cutIf false (fun H7 s7 => ?_) (fun Q' g => ?_))
    rotate_left
    · refine ⟨_, rfl, d, kvs, rfl, hd6, _, rfl, p, rfl, hd, fun H7 s7 => ⟨_, _, rfl, rfl, _, rfl, ?_⟩⟩
      have e : ((kvs.length : Nat) : Int) = (if shows p = true then ((10 ^ whl p : Nat) : Int) * 2 - 1 else ((10 ^ whl p : Nat) : Int)) := by
        rw [gi.len, ← hW]
        unfold cntN
        split <;> omega
      rw [decide_eq_true e]
      exact g _ s7
    have s47 := s6.trans s7
    have hd7 := s7 _ _ hd6
    have g7 := gi.same s7
    clear s6 hd6 gi s7
    refine ⟨d, .dK kvs, hd7, trivial, fun od => ?_⟩
    have hf : (upd H7 d (.frz od (.dK kvs))) d = some (.frz od (.dK kvs)) := upd_same
    have sf : Same H4 (upd H7 d (.frz od (.dK kvs))) := sm_mut s47 hd0
    have gf := g7.at (o := .frz od (.dK kvs)) hd7
    generalize upd H7 d (.frz od (.dK kvs)) = Hf at hf sf gf
    refine ⟨_, rfl, d, od, rfl, .inl ⟨kvs, hf, for_it walk_keys (fun i σ H' => (∃ o10 o11 o12 : Option V, σ = [some (.ref sc), some (.ref t), some (.int (0 + (i0 : Int))), some (tS (line p)), some (.bl (shows p)), some (.int (bef p)), some (.int (beh p)), o7, some (.ref d), some (.int (W : Int)), o10, o11, o12]) ∧ Same Hf H') ⟨⟨_, _, _, rfl⟩, Same.refl _⟩ (fun i σ H' _ h => h.2 _ _ hf) ?_ ?_⟩⟩
    · clear o10 o11 o12
      rintro i x σ H8 H8' hi ⟨⟨o10, o11, o12, rfl⟩, s8⟩ ⟨rfl, kk, v, hkv, rfl⟩
      obtain ⟨u, hu, a0, ekv, _⟩ := gf.kv _ (List.mem_of_getElem? hkv)
      obtain ⟨rfl, _⟩ := Prod.mk.inj ekv
      have g8 := gf.same s8
      obtain ⟨a, hval, ha, _⟩ | ⟨_, _, hno⟩ := g8.get (tx p u)
      rotate_left
      · exact absurd ⟨u, hu, rfl⟩ hno
      have G := grp_ok hd hW hu
      have hub : u.natAbs < 10 ^ whl p := by
        obtain ⟨j, hj, rfl⟩ := mem_units.mp hu
        rw [← hW]; exact un_lt hj
      generalize grp p W (2 * W - 1) (tx p u) = us at ha G
      refine normS [some (.ref sc), some (.ref t), some (.int (0 + (i0 : Int))), some (tS (line p)), some (.bl (shows p)), some (.int (bef p)), some (.int (beh p)), o7, some (.ref d), some (.int (W : Int)), o10, some (tS (tx p u)), o12] rfl ?_
      dsimp only
      refine stepC ⟨_, rfl, _, rfl, d, .ref a, rfl, .inl ⟨kvs, .inr (S (tx p u)), .inr ⟨od, s8 _ _ hf⟩, rfl, hval.symm⟩, ?_⟩
      refine normS [some (.ref sc), some (.ref t), some (.int (0 + (i0 : Int))), some (tS (line p)), some (.bl (shows p)), some (.int (bef p)), some (.int (beh p)), o7, some (.ref d), some (.int (W : Int)), o10, some (tS (tx p u)), some (.ref a)] rfl ?_
      dsimp only
      refine stepC (cutIf false (fun H9 s9 => ?_) (fun Q' g => ?_))
      rotate_left
      · refine ⟨_, rfl, shows p, rfl, ?_⟩
        refine iteC (fun hs => ⟨_, rfl, a, _, rfl, .inl (SqL.of ha), _, _, rfl, rfl, _, rfl, iteN ?_ ?_⟩) (fun hs => iteN rfl ?_)
        · rw [List.length_map, G.one hs]; rfl
        all_goals
          refine ⟨_, rfl, a, rfl, ⟨_, SqL.of ha⟩, fun D hD => ?_⟩
          have sD := sm_new (o := .lst []) (Same.refl H8') hD
          refine lc_list (xs := us.map V.int) (fun i H' => H' = upd H8' D (.lst [])) rfl (fun i H' _ h => by subst h; exact SqL.of (sD _ _ ha)) ?_ ?_
          · rintro i x H' hx rfl
            obtain ⟨z, hz, rfl⟩ : ∃ z, z ∈ us ∧ V.int z = x := List.mem_map.mp (List.mem_of_getElem? hx)
            have h0 : us[0]'G.ne ∈ us := List.getElem_mem G.ne
            refine ⟨rfl, ?_⟩
            refine ⟨_, rfl, z, rfl, _, rfl, a, us.map V.int, 0, .int (us[0]'G.ne), rfl, rfl, SqL.of (sD _ _ ha), ?_, _, rfl, _, _, rfl, rfl, _, rfl, iteN ?_ rfl⟩
            · show atI _ ((0 : Nat) : Int) = _
              rw [atI_nat, List.getElem?_map, List.getElem?_eq_getElem G.ne]
              rfl
            · have e1 := G.ab z hz
              have e2 := G.ab _ h0
              rw [decide_eq_true (show (if z < 0 then -z else z) = (if us[0]'G.ne < 0 then -(us[0]'G.ne) else us[0]'G.ne) by split <;> split <;> omega)]
              rfl
          · rintro H' rfl
            have hDD : (upd H8' D (.lst [])) D = some (.lst []) := upd_same
            refine ⟨by show 0 ≤ sizeLine; decide, fun q2 hq2 => ⟨.list [], .list [], .lst (SqL.of ((sm_new (Same.refl _) hq2) _ _ hDD)) .nil, .lst (SqL.of upd_same) .nil, rfl, rfl, _, rfl, ?_⟩⟩
            exact g _ (sD.trans (sm_new (Same.refl _) hq2))
      refine iteN rfl (tNx ?_)
      dsimp only
      refine (cutIf false (fun H10 s10 => ?_) (fun Q' g => ?_))
      · exact ⟨⟨_, _, _, rfl⟩, s8.trans (s9.trans s10)⟩
      · refine ⟨_, rfl, _, rfl, p, u, rfl, hd, h2, hub, fun tr H10 s10 htr => ⟨_, rfl, a, us, rfl, SqL.of (s10 _ _ (s9 _ _ ha)), G.ne, fun m hm1 hm2 => ⟨_, rfl, by show 2 ≤ sizeLine; decide, fun tt htt => ?_⟩⟩⟩
        rw [← G.mx m hm1 hm2] at htr
        have s11 := sm_new (o := .tup [.int m, .int (beh p)]) (Same.refl H10) htt
        refine ⟨.tuple [.int m, .int (beh p)], .tuple [.int m, .int (beh p)], .tup (SqT.of (s11 _ _ htr)) (.cons (.int _) (.cons (.int _) .nil)), .tup (SqT.of upd_same) (.cons (.int _) (.cons (.int _) .nil)), sh2 _ _, sh2 _ _, _, rfl, ?_⟩
        rw [eqv2]
        exact g _ (s10.trans s11)
    · rintro σ H8 ⟨⟨o10, o11, o12, rfl⟩, s8⟩
      exact ⟨s8 _ _ hf, ⟨_, _, _, _, _, _, _, _, _, _, _, rfl⟩, hT4.same (sm_mut (sf.trans s8) hd0)⟩
theorem kb_texts {K : PySem.W.Frag} {f : Addr} {fd : FuncData} (F : Fun K "texts_in_all" "texts_in_all" s_texts_in_all f fd) : KBinds K fd ["picture"] ["picture"] (fun us ws => us ++ ws) (fun us ws => us ++ ws) := by
  obtain ⟨oc, od, kV, doc, pm, an, cdv, ct, osl, rfl, lk, hcd⟩ := F.ex
  refine ⟨fun s us ws X hl => ?_, fun r1 r2 => r1.append r2⟩
  match us, ws, hl with
  | [], [v], _ => exact .of_eq rfl
  | [v], [], _ => exact .of_eq rfl
theorem kb_init {K : PySem.W.Frag} {f : Addr} {fd : FuncData} (F : FunD K "__init__" "Shape.__init__" (defArgs s_init__) (defBody s_init__) (defScope s_init__) [] [] f fd) : KBn K fd ["self", "lead", "whole", "broken", "tail", "first"] 5 ["first"] (fun us ws => us ++ ws) (fun us ws => us ++ ws) := by
  obtain ⟨oc, od, dV, kV, doc, pm, an, cdv, ct, osl, rfl, lk, hcd, hD, hK⟩ := F.ex
  rcases hD with ⟨_, rfl⟩ | ⟨e, _⟩
  · refine ⟨fun s us ws X h1 h2 => ?_, fun r1 r2 => r1.append r2⟩
    match us, ws, h1, h2 with
    | [_, _, _, _, _], [_], _, _ => exact .of_eq rfl
  · exact absurd rfl e
theorem law_binds {K : PySem.W.Frag} {f : Addr} {fd : FuncData} (F : Fun K "law" "law" s_law f fd) (s : Shared) (v : Value) : BindsTo s fd ⟨[v], []⟩ [("_law_script", v)] := by
  obtain ⟨oc, od, kV, doc, pm, an, cdv, ct, osl, rfl, lk, hcd⟩ := F.ex
  exact .of_eq rfl
theorem rel_txt {l : BX.T} {x : Str} {u : Value} (h : S l = x) (r : RelV (.str x) u) : RelV (tS l) u := by subst h; exact r
theorem all_mk {l : PySem.W.OpenLaw} {w : World} {K : PySem.W.Frag} {h : Heap} {mg : Str → Option Value} {fa C f_ten_to f_cut_short f_cut f_init f_floats f_marks f_before f_is_suppressed f_counted f_written_out f_is_number_form f_floating_row f_lead_of f_tail_of f_is_whole_part f_shape_of f_form_of f_is_picture f_unfolded f_kind_of f_room f_look_edited f_figures_of f_signed f_whole_signs f_with_blanks f_edited f_read_edited f_texts_in_all f_law_draw f_law_begun f_law_places f_law_an_edited f_law_line f_law : Addr} (X : K.In h) (G : h.Ns mainGlobals mg) (hfa : mg "law" = some (.ref fa))
    {u_INSERTED : Value}
    {u_FLOATS : Value}
    {u_FIGURES : Value}
    {u_MOST_FIGURES : Value}
    {u_MOST_SIGNS : Value}
    {od_ten_to an_ten_to : Option Addr} {sl_ten_to : Array (Option Value)} {oc_ten_to kV_ten_to dc_ten_to pm_ten_to cd_ten_to ct_ten_to : Value}
    {od_cut_short an_cut_short : Option Addr} {sl_cut_short : Array (Option Value)} {oc_cut_short kV_cut_short dc_cut_short pm_cut_short cd_cut_short ct_cut_short : Value}
    {od_cut an_cut : Option Addr} {sl_cut : Array (Option Value)} {oc_cut kV_cut dc_cut pm_cut cd_cut ct_cut : Value}
    {od_init an_init : Option Addr} {sl_init : Array (Option Value)} {oc_init kV_init dc_init pm_init cd_init ct_init : Value}
    {od_floats an_floats : Option Addr} {sl_floats : Array (Option Value)} {oc_floats kV_floats dc_floats pm_floats cd_floats ct_floats : Value}
    {od_marks an_marks : Option Addr} {sl_marks : Array (Option Value)} {oc_marks kV_marks dc_marks pm_marks cd_marks ct_marks : Value}
    {od_before an_before : Option Addr} {sl_before : Array (Option Value)} {oc_before kV_before dc_before pm_before cd_before ct_before : Value}
    {od_is_suppressed an_is_suppressed : Option Addr} {sl_is_suppressed : Array (Option Value)} {oc_is_suppressed kV_is_suppressed dc_is_suppressed pm_is_suppressed cd_is_suppressed ct_is_suppressed : Value}
    {od_counted an_counted : Option Addr} {sl_counted : Array (Option Value)} {oc_counted kV_counted dc_counted pm_counted cd_counted ct_counted : Value}
    {od_written_out an_written_out : Option Addr} {sl_written_out : Array (Option Value)} {oc_written_out kV_written_out dc_written_out pm_written_out cd_written_out ct_written_out : Value}
    {od_is_number_form an_is_number_form : Option Addr} {sl_is_number_form : Array (Option Value)} {oc_is_number_form kV_is_number_form dc_is_number_form pm_is_number_form cd_is_number_form ct_is_number_form : Value}
    {od_floating_row an_floating_row : Option Addr} {sl_floating_row : Array (Option Value)} {oc_floating_row kV_floating_row dc_floating_row pm_floating_row cd_floating_row ct_floating_row : Value}
    {od_lead_of an_lead_of : Option Addr} {sl_lead_of : Array (Option Value)} {oc_lead_of kV_lead_of dc_lead_of pm_lead_of cd_lead_of ct_lead_of : Value}
    {od_tail_of an_tail_of : Option Addr} {sl_tail_of : Array (Option Value)} {oc_tail_of kV_tail_of dc_tail_of pm_tail_of cd_tail_of ct_tail_of : Value}
    {od_is_whole_part an_is_whole_part : Option Addr} {sl_is_whole_part : Array (Option Value)} {oc_is_whole_part kV_is_whole_part dc_is_whole_part pm_is_whole_part cd_is_whole_part ct_is_whole_part : Value}
    {od_shape_of an_shape_of : Option Addr} {sl_shape_of : Array (Option Value)} {oc_shape_of kV_shape_of dc_shape_of pm_shape_of cd_shape_of ct_shape_of : Value}
    {od_form_of an_form_of : Option Addr} {sl_form_of : Array (Option Value)} {oc_form_of kV_form_of dc_form_of pm_form_of cd_form_of ct_form_of : Value}
    {od_is_picture an_is_picture : Option Addr} {sl_is_picture : Array (Option Value)} {oc_is_picture kV_is_picture dc_is_picture pm_is_picture cd_is_picture ct_is_picture : Value}
    {od_unfolded an_unfolded : Option Addr} {sl_unfolded : Array (Option Value)} {oc_unfolded kV_unfolded dc_unfolded pm_unfolded cd_unfolded ct_unfolded : Value}
    {od_kind_of an_kind_of : Option Addr} {sl_kind_of : Array (Option Value)} {oc_kind_of kV_kind_of dc_kind_of pm_kind_of cd_kind_of ct_kind_of : Value}
    {od_room an_room : Option Addr} {sl_room : Array (Option Value)} {oc_room kV_room dc_room pm_room cd_room ct_room : Value}
    {od_look_edited an_look_edited : Option Addr} {sl_look_edited : Array (Option Value)} {oc_look_edited kV_look_edited dc_look_edited pm_look_edited cd_look_edited ct_look_edited : Value}
    {od_figures_of an_figures_of : Option Addr} {sl_figures_of : Array (Option Value)} {oc_figures_of kV_figures_of dc_figures_of pm_figures_of cd_figures_of ct_figures_of : Value}
    {od_signed an_signed : Option Addr} {sl_signed : Array (Option Value)} {oc_signed kV_signed dc_signed pm_signed cd_signed ct_signed : Value}
    {od_whole_signs an_whole_signs : Option Addr} {sl_whole_signs : Array (Option Value)} {oc_whole_signs kV_whole_signs dc_whole_signs pm_whole_signs cd_whole_signs ct_whole_signs : Value}
    {od_with_blanks an_with_blanks : Option Addr} {sl_with_blanks : Array (Option Value)} {oc_with_blanks kV_with_blanks dc_with_blanks pm_with_blanks cd_with_blanks ct_with_blanks : Value}
    {od_edited an_edited : Option Addr} {sl_edited : Array (Option Value)} {oc_edited kV_edited dc_edited pm_edited cd_edited ct_edited : Value}
    {od_read_edited an_read_edited : Option Addr} {sl_read_edited : Array (Option Value)} {oc_read_edited kV_read_edited dc_read_edited pm_read_edited cd_read_edited ct_read_edited : Value}
    {od_texts_in_all an_texts_in_all : Option Addr} {sl_texts_in_all : Array (Option Value)} {oc_texts_in_all kV_texts_in_all dc_texts_in_all pm_texts_in_all cd_texts_in_all ct_texts_in_all : Value}
    {od_law_draw an_law_draw : Option Addr} {sl_law_draw : Array (Option Value)} {oc_law_draw kV_law_draw dc_law_draw pm_law_draw cd_law_draw ct_law_draw : Value}
    {od_law_begun an_law_begun : Option Addr} {sl_law_begun : Array (Option Value)} {oc_law_begun kV_law_begun dc_law_begun pm_law_begun cd_law_begun ct_law_begun : Value}
    {od_law_places an_law_places : Option Addr} {sl_law_places : Array (Option Value)} {oc_law_places kV_law_places dc_law_places pm_law_places cd_law_places ct_law_places : Value}
    {od_law_an_edited an_law_an_edited : Option Addr} {sl_law_an_edited : Array (Option Value)} {oc_law_an_edited kV_law_an_edited dc_law_an_edited pm_law_an_edited cd_law_an_edited ct_law_an_edited : Value}
    {od_law_line an_law_line : Option Addr} {sl_law_line : Array (Option Value)} {oc_law_line kV_law_line dc_law_line pm_law_line cd_law_line ct_law_line : Value}
    {od_law an_law : Option Addr} {sl_law : Array (Option Value)} {oc_law kV_law dc_law pm_law cd_law ct_law : Value}
    (aC : PySem.W.nsIn K mainGlobals "Shape" = some (some (.ref C)))
    (kpg : PySem.W.plainGet K C Str.empty = true)
    (khd : PySem.W.hasDictIn K C = true)
    (kpo : PySem.W.plainOver K C = true)
    (ksa : PySem.W.findIn K (.ref C) "__setattr__" = some (some (.builtin "object.__setattr__")))
    (kmk : PySem.W.makesIn K C = true)
    (kkc : PySem.W.keepIn K (.ref C) = true)
    (n_lead : PySem.W.findIn K (.ref C) "lead" = some none)
    (n_whole : PySem.W.findIn K (.ref C) "whole" = some none)
    (n_broken : PySem.W.findIn K (.ref C) "broken" = some none)
    (n_tail : PySem.W.findIn K (.ref C) "tail" = some none)
    (n_first : PySem.W.findIn K (.ref C) "first" = some none)
    (z_len : PySem.W.nsIn K mainGlobals "len" = some none)
    (z_abs : PySem.W.nsIn K mainGlobals "abs" = some none)
    (z_range : PySem.W.nsIn K mainGlobals "range" = some none)
    (z_int : PySem.W.nsIn K mainGlobals "int" = some none)
    (z_str : PySem.W.nsIn K mainGlobals "str" = some none)
    (z_list : PySem.W.nsIn K mainGlobals "list" = some none)
    (z_all : PySem.W.nsIn K mainGlobals "all" = some none)
    (z_sum : PySem.W.nsIn K mainGlobals "sum" = some none)
    (z_max : PySem.W.nsIn K mainGlobals "max" = some none)
    (z_isinstance : PySem.W.nsIn K mainGlobals "isinstance" = some none)
    (z_enumerate : PySem.W.nsIn K mainGlobals "enumerate" = some none)
    (v_INSERTED : PySem.W.nsIn K mainGlobals "INSERTED" = some (some u_INSERTED))
    (e_INSERTED : RelV (.str ",B0/") u_INSERTED)
    (v_FLOATS : PySem.W.nsIn K mainGlobals "FLOATS" = some (some u_FLOATS))
    (e_FLOATS : RelV (.str "+-$") u_FLOATS)
    (v_FIGURES : PySem.W.nsIn K mainGlobals "FIGURES" = some (some u_FIGURES))
    (e_FIGURES : RelV (.str "0123456789") u_FIGURES)
    (v_MOST_FIGURES : PySem.W.nsIn K mainGlobals "MOST_FIGURES" = some (some u_MOST_FIGURES))
    (e_MOST_FIGURES : RelV (.int 18) u_MOST_FIGURES)
    (v_MOST_SIGNS : PySem.W.nsIn K mainGlobals "MOST_SIGNS" = some (some u_MOST_SIGNS))
    (e_MOST_SIGNS : RelV (.int 60) u_MOST_SIGNS)
    (a_ten_to : PySem.W.nsIn K mainGlobals "ten_to" = some (some (.ref f_ten_to)))
    (l_ten_to : K.lookup f_ten_to = some ⟨oc_ten_to, od_ten_to, .func (PySem.W.fnOf "ten_to" "ten_to" (defArgs s_ten_to) (defBody s_ten_to) (defScope s_ten_to) .none kV_ten_to dc_ten_to pm_ten_to an_ten_to cd_ten_to ct_ten_to), sl_ten_to⟩)
    (c_ten_to : PySem.W.codeIn K cd_ten_to "ten_to" = true)
    (k_ten_to : PySem.W.keepIn K (.ref f_ten_to) = true)
    (a_cut_short : PySem.W.nsIn K mainGlobals "cut_short" = some (some (.ref f_cut_short)))
    (l_cut_short : K.lookup f_cut_short = some ⟨oc_cut_short, od_cut_short, .func (PySem.W.fnOf "cut_short" "cut_short" (defArgs s_cut_short) (defBody s_cut_short) (defScope s_cut_short) .none kV_cut_short dc_cut_short pm_cut_short an_cut_short cd_cut_short ct_cut_short), sl_cut_short⟩)
    (c_cut_short : PySem.W.codeIn K cd_cut_short "cut_short" = true)
    (k_cut_short : PySem.W.keepIn K (.ref f_cut_short) = true)
    (a_cut : PySem.W.nsIn K mainGlobals "cut" = some (some (.ref f_cut)))
    (l_cut : K.lookup f_cut = some ⟨oc_cut, od_cut, .func (PySem.W.fnOf "cut" "cut" (defArgs s_cut) (defBody s_cut) (defScope s_cut) .none kV_cut dc_cut pm_cut an_cut cd_cut ct_cut), sl_cut⟩)
    (c_cut : PySem.W.codeIn K cd_cut "cut" = true)
    (k_cut : PySem.W.keepIn K (.ref f_cut) = true)
    (a_init : PySem.W.findIn K (.ref C) "__init__" = some (some (.ref f_init)))
    (i_init : PySem.W.isFn K (.ref f_init) = true)
    (l_init : K.lookup f_init = some ⟨oc_init, od_init, .func (PySem.W.fnOf "__init__" "Shape.__init__" (defArgs s_init__) (defBody s_init__) (defScope s_init__) .none kV_init dc_init pm_init an_init cd_init ct_init), sl_init⟩)
    (c_init : PySem.W.codeIn K cd_init "Shape.__init__" = true)
    (k_init : PySem.W.keepIn K (.ref f_init) = true)
    (a_floats : PySem.W.findIn K (.ref C) "floats" = some (some (.ref f_floats)))
    (i_floats : PySem.W.isFn K (.ref f_floats) = true)
    (l_floats : K.lookup f_floats = some ⟨oc_floats, od_floats, .func (PySem.W.fnOf "floats" "Shape.floats" (defArgs s_floats) (defBody s_floats) (defScope s_floats) .none kV_floats dc_floats pm_floats an_floats cd_floats ct_floats), sl_floats⟩)
    (c_floats : PySem.W.codeIn K cd_floats "Shape.floats" = true)
    (k_floats : PySem.W.keepIn K (.ref f_floats) = true)
    (a_marks : PySem.W.findIn K (.ref C) "marks" = some (some (.ref f_marks)))
    (i_marks : PySem.W.isFn K (.ref f_marks) = true)
    (l_marks : K.lookup f_marks = some ⟨oc_marks, od_marks, .func (PySem.W.fnOf "marks" "Shape.marks" (defArgs s_marks) (defBody s_marks) (defScope s_marks) .none kV_marks dc_marks pm_marks an_marks cd_marks ct_marks), sl_marks⟩)
    (c_marks : PySem.W.codeIn K cd_marks "Shape.marks" = true)
    (k_marks : PySem.W.keepIn K (.ref f_marks) = true)
    (a_before : PySem.W.findIn K (.ref C) "before" = some (some (.ref f_before)))
    (i_before : PySem.W.isFn K (.ref f_before) = true)
    (l_before : K.lookup f_before = some ⟨oc_before, od_before, .func (PySem.W.fnOf "before" "Shape.before" (defArgs s_before) (defBody s_before) (defScope s_before) .none kV_before dc_before pm_before an_before cd_before ct_before), sl_before⟩)
    (c_before : PySem.W.codeIn K cd_before "Shape.before" = true)
    (k_before : PySem.W.keepIn K (.ref f_before) = true)
    (a_is_suppressed : PySem.W.findIn K (.ref C) "is_suppressed" = some (some (.ref f_is_suppressed)))
    (i_is_suppressed : PySem.W.isFn K (.ref f_is_suppressed) = true)
    (l_is_suppressed : K.lookup f_is_suppressed = some ⟨oc_is_suppressed, od_is_suppressed, .func (PySem.W.fnOf "is_suppressed" "Shape.is_suppressed" (defArgs s_is_suppressed) (defBody s_is_suppressed) (defScope s_is_suppressed) .none kV_is_suppressed dc_is_suppressed pm_is_suppressed an_is_suppressed cd_is_suppressed ct_is_suppressed), sl_is_suppressed⟩)
    (c_is_suppressed : PySem.W.codeIn K cd_is_suppressed "Shape.is_suppressed" = true)
    (k_is_suppressed : PySem.W.keepIn K (.ref f_is_suppressed) = true)
    (a_counted : PySem.W.nsIn K mainGlobals "counted" = some (some (.ref f_counted)))
    (l_counted : K.lookup f_counted = some ⟨oc_counted, od_counted, .func (PySem.W.fnOf "counted" "counted" (defArgs s_counted) (defBody s_counted) (defScope s_counted) .none kV_counted dc_counted pm_counted an_counted cd_counted ct_counted), sl_counted⟩)
    (c_counted : PySem.W.codeIn K cd_counted "counted" = true)
    (k_counted : PySem.W.keepIn K (.ref f_counted) = true)
    (a_written_out : PySem.W.nsIn K mainGlobals "written_out" = some (some (.ref f_written_out)))
    (l_written_out : K.lookup f_written_out = some ⟨oc_written_out, od_written_out, .func (PySem.W.fnOf "written_out" "written_out" (defArgs s_written_out) (defBody s_written_out) (defScope s_written_out) .none kV_written_out dc_written_out pm_written_out an_written_out cd_written_out ct_written_out), sl_written_out⟩)
    (c_written_out : PySem.W.codeIn K cd_written_out "written_out" = true)
    (k_written_out : PySem.W.keepIn K (.ref f_written_out) = true)
    (a_is_number_form : PySem.W.nsIn K mainGlobals "is_number_form" = some (some (.ref f_is_number_form)))
    (l_is_number_form : K.lookup f_is_number_form = some ⟨oc_is_number_form, od_is_number_form, .func (PySem.W.fnOf "is_number_form" "is_number_form" (defArgs s_is_number_form) (defBody s_is_number_form) (defScope s_is_number_form) .none kV_is_number_form dc_is_number_form pm_is_number_form an_is_number_form cd_is_number_form ct_is_number_form), sl_is_number_form⟩)
    (c_is_number_form : PySem.W.codeIn K cd_is_number_form "is_number_form" = true)
    (k_is_number_form : PySem.W.keepIn K (.ref f_is_number_form) = true)
    (a_floating_row : PySem.W.nsIn K mainGlobals "floating_row" = some (some (.ref f_floating_row)))
    (l_floating_row : K.lookup f_floating_row = some ⟨oc_floating_row, od_floating_row, .func (PySem.W.fnOf "floating_row" "floating_row" (defArgs s_floating_row) (defBody s_floating_row) (defScope s_floating_row) .none kV_floating_row dc_floating_row pm_floating_row an_floating_row cd_floating_row ct_floating_row), sl_floating_row⟩)
    (c_floating_row : PySem.W.codeIn K cd_floating_row "floating_row" = true)
    (k_floating_row : PySem.W.keepIn K (.ref f_floating_row) = true)
    (a_lead_of : PySem.W.nsIn K mainGlobals "lead_of" = some (some (.ref f_lead_of)))
    (l_lead_of : K.lookup f_lead_of = some ⟨oc_lead_of, od_lead_of, .func (PySem.W.fnOf "lead_of" "lead_of" (defArgs s_lead_of) (defBody s_lead_of) (defScope s_lead_of) .none kV_lead_of dc_lead_of pm_lead_of an_lead_of cd_lead_of ct_lead_of), sl_lead_of⟩)
    (c_lead_of : PySem.W.codeIn K cd_lead_of "lead_of" = true)
    (k_lead_of : PySem.W.keepIn K (.ref f_lead_of) = true)
    (a_tail_of : PySem.W.nsIn K mainGlobals "tail_of" = some (some (.ref f_tail_of)))
    (l_tail_of : K.lookup f_tail_of = some ⟨oc_tail_of, od_tail_of, .func (PySem.W.fnOf "tail_of" "tail_of" (defArgs s_tail_of) (defBody s_tail_of) (defScope s_tail_of) .none kV_tail_of dc_tail_of pm_tail_of an_tail_of cd_tail_of ct_tail_of), sl_tail_of⟩)
    (c_tail_of : PySem.W.codeIn K cd_tail_of "tail_of" = true)
    (k_tail_of : PySem.W.keepIn K (.ref f_tail_of) = true)
    (a_is_whole_part : PySem.W.nsIn K mainGlobals "is_whole_part" = some (some (.ref f_is_whole_part)))
    (l_is_whole_part : K.lookup f_is_whole_part = some ⟨oc_is_whole_part, od_is_whole_part, .func (PySem.W.fnOf "is_whole_part" "is_whole_part" (defArgs s_is_whole_part) (defBody s_is_whole_part) (defScope s_is_whole_part) .none kV_is_whole_part dc_is_whole_part pm_is_whole_part an_is_whole_part cd_is_whole_part ct_is_whole_part), sl_is_whole_part⟩)
    (c_is_whole_part : PySem.W.codeIn K cd_is_whole_part "is_whole_part" = true)
    (k_is_whole_part : PySem.W.keepIn K (.ref f_is_whole_part) = true)
    (a_shape_of : PySem.W.nsIn K mainGlobals "shape_of" = some (some (.ref f_shape_of)))
    (l_shape_of : K.lookup f_shape_of = some ⟨oc_shape_of, od_shape_of, .func (PySem.W.fnOf "shape_of" "shape_of" (defArgs s_shape_of) (defBody s_shape_of) (defScope s_shape_of) .none kV_shape_of dc_shape_of pm_shape_of an_shape_of cd_shape_of ct_shape_of), sl_shape_of⟩)
    (c_shape_of : PySem.W.codeIn K cd_shape_of "shape_of" = true)
    (k_shape_of : PySem.W.keepIn K (.ref f_shape_of) = true)
    (a_form_of : PySem.W.nsIn K mainGlobals "form_of" = some (some (.ref f_form_of)))
    (l_form_of : K.lookup f_form_of = some ⟨oc_form_of, od_form_of, .func (PySem.W.fnOf "form_of" "form_of" (defArgs s_form_of) (defBody s_form_of) (defScope s_form_of) .none kV_form_of dc_form_of pm_form_of an_form_of cd_form_of ct_form_of), sl_form_of⟩)
    (c_form_of : PySem.W.codeIn K cd_form_of "form_of" = true)
    (k_form_of : PySem.W.keepIn K (.ref f_form_of) = true)
    (a_is_picture : PySem.W.nsIn K mainGlobals "is_picture" = some (some (.ref f_is_picture)))
    (l_is_picture : K.lookup f_is_picture = some ⟨oc_is_picture, od_is_picture, .func (PySem.W.fnOf "is_picture" "is_picture" (defArgs s_is_picture) (defBody s_is_picture) (defScope s_is_picture) .none kV_is_picture dc_is_picture pm_is_picture an_is_picture cd_is_picture ct_is_picture), sl_is_picture⟩)
    (c_is_picture : PySem.W.codeIn K cd_is_picture "is_picture" = true)
    (k_is_picture : PySem.W.keepIn K (.ref f_is_picture) = true)
    (a_unfolded : PySem.W.nsIn K mainGlobals "unfolded" = some (some (.ref f_unfolded)))
    (l_unfolded : K.lookup f_unfolded = some ⟨oc_unfolded, od_unfolded, .func (PySem.W.fnOf "unfolded" "unfolded" (defArgs s_unfolded) (defBody s_unfolded) (defScope s_unfolded) .none kV_unfolded dc_unfolded pm_unfolded an_unfolded cd_unfolded ct_unfolded), sl_unfolded⟩)
    (c_unfolded : PySem.W.codeIn K cd_unfolded "unfolded" = true)
    (k_unfolded : PySem.W.keepIn K (.ref f_unfolded) = true)
    (a_kind_of : PySem.W.nsIn K mainGlobals "kind_of" = some (some (.ref f_kind_of)))
    (l_kind_of : K.lookup f_kind_of = some ⟨oc_kind_of, od_kind_of, .func (PySem.W.fnOf "kind_of" "kind_of" (defArgs s_kind_of) (defBody s_kind_of) (defScope s_kind_of) .none kV_kind_of dc_kind_of pm_kind_of an_kind_of cd_kind_of ct_kind_of), sl_kind_of⟩)
    (c_kind_of : PySem.W.codeIn K cd_kind_of "kind_of" = true)
    (k_kind_of : PySem.W.keepIn K (.ref f_kind_of) = true)
    (a_room : PySem.W.nsIn K mainGlobals "room" = some (some (.ref f_room)))
    (l_room : K.lookup f_room = some ⟨oc_room, od_room, .func (PySem.W.fnOf "room" "room" (defArgs s_room) (defBody s_room) (defScope s_room) .none kV_room dc_room pm_room an_room cd_room ct_room), sl_room⟩)
    (c_room : PySem.W.codeIn K cd_room "room" = true)
    (k_room : PySem.W.keepIn K (.ref f_room) = true)
    (a_look_edited : PySem.W.nsIn K mainGlobals "look_edited" = some (some (.ref f_look_edited)))
    (l_look_edited : K.lookup f_look_edited = some ⟨oc_look_edited, od_look_edited, .func (PySem.W.fnOf "look_edited" "look_edited" (defArgs s_look_edited) (defBody s_look_edited) (defScope s_look_edited) .none kV_look_edited dc_look_edited pm_look_edited an_look_edited cd_look_edited ct_look_edited), sl_look_edited⟩)
    (c_look_edited : PySem.W.codeIn K cd_look_edited "look_edited" = true)
    (k_look_edited : PySem.W.keepIn K (.ref f_look_edited) = true)
    (a_figures_of : PySem.W.nsIn K mainGlobals "figures_of" = some (some (.ref f_figures_of)))
    (l_figures_of : K.lookup f_figures_of = some ⟨oc_figures_of, od_figures_of, .func (PySem.W.fnOf "figures_of" "figures_of" (defArgs s_figures_of) (defBody s_figures_of) (defScope s_figures_of) .none kV_figures_of dc_figures_of pm_figures_of an_figures_of cd_figures_of ct_figures_of), sl_figures_of⟩)
    (c_figures_of : PySem.W.codeIn K cd_figures_of "figures_of" = true)
    (k_figures_of : PySem.W.keepIn K (.ref f_figures_of) = true)
    (a_signed : PySem.W.nsIn K mainGlobals "signed" = some (some (.ref f_signed)))
    (l_signed : K.lookup f_signed = some ⟨oc_signed, od_signed, .func (PySem.W.fnOf "signed" "signed" (defArgs s_signed) (defBody s_signed) (defScope s_signed) .none kV_signed dc_signed pm_signed an_signed cd_signed ct_signed), sl_signed⟩)
    (c_signed : PySem.W.codeIn K cd_signed "signed" = true)
    (k_signed : PySem.W.keepIn K (.ref f_signed) = true)
    (a_whole_signs : PySem.W.nsIn K mainGlobals "whole_signs" = some (some (.ref f_whole_signs)))
    (l_whole_signs : K.lookup f_whole_signs = some ⟨oc_whole_signs, od_whole_signs, .func (PySem.W.fnOf "whole_signs" "whole_signs" (defArgs s_whole_signs) (defBody s_whole_signs) (defScope s_whole_signs) .none kV_whole_signs dc_whole_signs pm_whole_signs an_whole_signs cd_whole_signs ct_whole_signs), sl_whole_signs⟩)
    (c_whole_signs : PySem.W.codeIn K cd_whole_signs "whole_signs" = true)
    (k_whole_signs : PySem.W.keepIn K (.ref f_whole_signs) = true)
    (a_with_blanks : PySem.W.nsIn K mainGlobals "with_blanks" = some (some (.ref f_with_blanks)))
    (l_with_blanks : K.lookup f_with_blanks = some ⟨oc_with_blanks, od_with_blanks, .func (PySem.W.fnOf "with_blanks" "with_blanks" (defArgs s_with_blanks) (defBody s_with_blanks) (defScope s_with_blanks) .none kV_with_blanks dc_with_blanks pm_with_blanks an_with_blanks cd_with_blanks ct_with_blanks), sl_with_blanks⟩)
    (c_with_blanks : PySem.W.codeIn K cd_with_blanks "with_blanks" = true)
    (k_with_blanks : PySem.W.keepIn K (.ref f_with_blanks) = true)
    (a_edited : PySem.W.nsIn K mainGlobals "edited" = some (some (.ref f_edited)))
    (l_edited : K.lookup f_edited = some ⟨oc_edited, od_edited, .func (PySem.W.fnOf "edited" "edited" (defArgs s_edited) (defBody s_edited) (defScope s_edited) .none kV_edited dc_edited pm_edited an_edited cd_edited ct_edited), sl_edited⟩)
    (c_edited : PySem.W.codeIn K cd_edited "edited" = true)
    (k_edited : PySem.W.keepIn K (.ref f_edited) = true)
    (a_read_edited : PySem.W.nsIn K mainGlobals "read_edited" = some (some (.ref f_read_edited)))
    (l_read_edited : K.lookup f_read_edited = some ⟨oc_read_edited, od_read_edited, .func (PySem.W.fnOf "read_edited" "read_edited" (defArgs s_read_edited) (defBody s_read_edited) (defScope s_read_edited) .none kV_read_edited dc_read_edited pm_read_edited an_read_edited cd_read_edited ct_read_edited), sl_read_edited⟩)
    (c_read_edited : PySem.W.codeIn K cd_read_edited "read_edited" = true)
    (k_read_edited : PySem.W.keepIn K (.ref f_read_edited) = true)
    (a_texts_in_all : PySem.W.nsIn K mainGlobals "texts_in_all" = some (some (.ref f_texts_in_all)))
    (l_texts_in_all : K.lookup f_texts_in_all = some ⟨oc_texts_in_all, od_texts_in_all, .func (PySem.W.fnOf "texts_in_all" "texts_in_all" (defArgs s_texts_in_all) (defBody s_texts_in_all) (defScope s_texts_in_all) .none kV_texts_in_all dc_texts_in_all pm_texts_in_all an_texts_in_all cd_texts_in_all ct_texts_in_all), sl_texts_in_all⟩)
    (c_texts_in_all : PySem.W.codeIn K cd_texts_in_all "texts_in_all" = true)
    (k_texts_in_all : PySem.W.keepIn K (.ref f_texts_in_all) = true)
    (a_law_draw : PySem.W.nsIn K mainGlobals "_law_draw" = some (some (.ref f_law_draw)))
    (l_law_draw : K.lookup f_law_draw = some ⟨oc_law_draw, od_law_draw, .func (PySem.W.fnOf "_law_draw" "_law_draw" (defArgs s_law_draw) (defBody s_law_draw) (defScope s_law_draw) .none kV_law_draw dc_law_draw pm_law_draw an_law_draw cd_law_draw ct_law_draw), sl_law_draw⟩)
    (c_law_draw : PySem.W.codeIn K cd_law_draw "_law_draw" = true)
    (k_law_draw : PySem.W.keepIn K (.ref f_law_draw) = true)
    (a_law_begun : PySem.W.nsIn K mainGlobals "_law_begun" = some (some (.ref f_law_begun)))
    (l_law_begun : K.lookup f_law_begun = some ⟨oc_law_begun, od_law_begun, .func (PySem.W.fnOf "_law_begun" "_law_begun" (defArgs s_law_begun) (defBody s_law_begun) (defScope s_law_begun) .none kV_law_begun dc_law_begun pm_law_begun an_law_begun cd_law_begun ct_law_begun), sl_law_begun⟩)
    (c_law_begun : PySem.W.codeIn K cd_law_begun "_law_begun" = true)
    (k_law_begun : PySem.W.keepIn K (.ref f_law_begun) = true)
    (a_law_places : PySem.W.nsIn K mainGlobals "_law_places" = some (some (.ref f_law_places)))
    (l_law_places : K.lookup f_law_places = some ⟨oc_law_places, od_law_places, .func (PySem.W.fnOf "_law_places" "_law_places" (defArgs s_law_places) (defBody s_law_places) (defScope s_law_places) .none kV_law_places dc_law_places pm_law_places an_law_places cd_law_places ct_law_places), sl_law_places⟩)
    (c_law_places : PySem.W.codeIn K cd_law_places "_law_places" = true)
    (k_law_places : PySem.W.keepIn K (.ref f_law_places) = true)
    (a_law_an_edited : PySem.W.nsIn K mainGlobals "_law_an_edited" = some (some (.ref f_law_an_edited)))
    (l_law_an_edited : K.lookup f_law_an_edited = some ⟨oc_law_an_edited, od_law_an_edited, .func (PySem.W.fnOf "_law_an_edited" "_law_an_edited" (defArgs s_law_an_edited) (defBody s_law_an_edited) (defScope s_law_an_edited) .none kV_law_an_edited dc_law_an_edited pm_law_an_edited an_law_an_edited cd_law_an_edited ct_law_an_edited), sl_law_an_edited⟩)
    (c_law_an_edited : PySem.W.codeIn K cd_law_an_edited "_law_an_edited" = true)
    (k_law_an_edited : PySem.W.keepIn K (.ref f_law_an_edited) = true)
    (a_law_line : PySem.W.nsIn K mainGlobals "_law_line" = some (some (.ref f_law_line)))
    (l_law_line : K.lookup f_law_line = some ⟨oc_law_line, od_law_line, .func (PySem.W.fnOf "_law_line" "_law_line" (defArgs s_law_line) (defBody s_law_line) (defScope s_law_line) .none kV_law_line dc_law_line pm_law_line an_law_line cd_law_line ct_law_line), sl_law_line⟩)
    (c_law_line : PySem.W.codeIn K cd_law_line "_law_line" = true)
    (k_law_line : PySem.W.keepIn K (.ref f_law_line) = true)
    (a_law : PySem.W.nsIn K mainGlobals "law" = some (some (.ref f_law)))
    (l_law : K.lookup f_law = some ⟨oc_law, od_law, .func (PySem.W.fnOf "law" "law" (defArgs s_law) (defBody s_law) (defScope s_law) .none kV_law dc_law pm_law an_law cd_law ct_law), sl_law⟩)
    (c_law : PySem.W.codeIn K cd_law "law" = true)
    (k_law : PySem.W.keepIn K (.ref f_law) = true) :
    ∃ fd : FuncData, (∀ (s : Shared) (v : Value), BindsTo s fd ⟨[v], []⟩ [("_law_script", v)]) ∧ ∀ base : Heap, K.In base → base.Ns mainGlobals mg → FnOk l.prog w K mg base CX0 11 fa fd ["_law_script"] (spLaw K) := by
  have e := hfa.symm.trans (PySem.W.mg_of X G a_law)
  cases e
  have T : Txt K mg C := ⟨⟨kpg, khd, kpo, ksa⟩, n_lead, n_whole, n_broken, n_tail, n_first, PySem.W.mg_of X G aC, ⟨_, PySem.W.mg_of X G v_INSERTED, rel_txt (by decide +kernel) e_INSERTED⟩, ⟨_, PySem.W.mg_of X G v_FLOATS, rel_txt (by decide +kernel) e_FLOATS⟩, ⟨_, PySem.W.mg_of X G v_FIGURES, rel_txt (by decide +kernel) e_FIGURES⟩, ⟨_, PySem.W.mg_of X G v_MOST_FIGURES, e_MOST_FIGURES⟩, ⟨_, PySem.W.mg_of X G v_MOST_SIGNS, e_MOST_SIGNS⟩, PySem.W.mg_none_of X G z_len, PySem.W.mg_none_of X G z_abs, PySem.W.mg_none_of X G z_range, PySem.W.mg_none_of X G z_int, PySem.W.mg_none_of X G z_str, PySem.W.mg_none_of X G z_list, PySem.W.mg_none_of X G z_all, PySem.W.mg_none_of X G z_sum, PySem.W.mg_none_of X G z_max, PySem.W.mg_none_of X G z_isinstance, PySem.W.mg_none_of X G z_enumerate⟩
  have F_ten_to := fun_mk (st := s_ten_to) l_ten_to c_ten_to k_ten_to
  have b_ten_to := F_ten_to.binds (ps := ["places"]) fun _ _ _ _ _ _ us hl => match us, hl with | [_], _ => rfl
  have F_cut_short := fun_mk (st := s_cut_short) l_cut_short c_cut_short k_cut_short
  have b_cut_short := F_cut_short.binds (ps := ["top", "bottom"]) fun _ _ _ _ _ _ us hl => match us, hl with | [_, _], _ => rfl
  have F_cut := fun_mk (st := s_cut) l_cut c_cut k_cut
  have b_cut := F_cut.binds (ps := ["amount", "places"]) fun _ _ _ _ _ _ us hl => match us, hl with | [_, _], _ => rfl
  have F_init : FunD K "__init__" "Shape.__init__" (defArgs s_init__) (defBody s_init__) (defScope s_init__) [] [] f_init _ := ⟨⟨_, _, .none, _, _, _, _, _, _, _, rfl, l_init, c_init, .inl ⟨rfl, rfl⟩, .inl rfl⟩, k_init⟩
  have F_floats := fun_mk (st := s_floats) l_floats c_floats k_floats
  have b_floats := F_floats.binds (ps := ["self"]) fun _ _ _ _ _ _ us hl => match us, hl with | [_], _ => rfl
  have F_marks := fun_mk (st := s_marks) l_marks c_marks k_marks
  have b_marks := F_marks.binds (ps := ["self"]) fun _ _ _ _ _ _ us hl => match us, hl with | [_], _ => rfl
  have F_before := fun_mk (st := s_before) l_before c_before k_before
  have b_before := F_before.binds (ps := ["self"]) fun _ _ _ _ _ _ us hl => match us, hl with | [_], _ => rfl
  have F_is_suppressed := fun_mk (st := s_is_suppressed) l_is_suppressed c_is_suppressed k_is_suppressed
  have b_is_suppressed := F_is_suppressed.binds (ps := ["self"]) fun _ _ _ _ _ _ us hl => match us, hl with | [_], _ => rfl
  have F_counted := fun_mk (st := s_counted) l_counted c_counted k_counted
  have b_counted := F_counted.binds (ps := ["text"]) fun _ _ _ _ _ _ us hl => match us, hl with | [_], _ => rfl
  have F_written_out := fun_mk (st := s_written_out) l_written_out c_written_out k_written_out
  have b_written_out := F_written_out.binds (ps := ["text"]) fun _ _ _ _ _ _ us hl => match us, hl with | [_], _ => rfl
  have F_is_number_form := fun_mk (st := s_is_number_form) l_is_number_form c_is_number_form k_is_number_form
  have b_is_number_form := F_is_number_form.binds (ps := ["text"]) fun _ _ _ _ _ _ us hl => match us, hl with | [_], _ => rfl
  have F_floating_row := fun_mk (st := s_floating_row) l_floating_row c_floating_row k_floating_row
  have b_floating_row := F_floating_row.binds (ps := ["text"]) fun _ _ _ _ _ _ us hl => match us, hl with | [_], _ => rfl
  have F_lead_of := fun_mk (st := s_lead_of) l_lead_of c_lead_of k_lead_of
  have b_lead_of := F_lead_of.binds (ps := ["text"]) fun _ _ _ _ _ _ us hl => match us, hl with | [_], _ => rfl
  have F_tail_of := fun_mk (st := s_tail_of) l_tail_of c_tail_of k_tail_of
  have b_tail_of := F_tail_of.binds (ps := ["text"]) fun _ _ _ _ _ _ us hl => match us, hl with | [_], _ => rfl
  have F_is_whole_part := fun_mk (st := s_is_whole_part) l_is_whole_part c_is_whole_part k_is_whole_part
  have b_is_whole_part := F_is_whole_part.binds (ps := ["whole", "first"]) fun _ _ _ _ _ _ us hl => match us, hl with | [_, _], _ => rfl
  have F_shape_of := fun_mk (st := s_shape_of) l_shape_of c_shape_of k_shape_of
  have b_shape_of := F_shape_of.binds (ps := ["text"]) fun _ _ _ _ _ _ us hl => match us, hl with | [_], _ => rfl
  have F_form_of := fun_mk (st := s_form_of) l_form_of c_form_of k_form_of
  have b_form_of := F_form_of.binds (ps := ["text"]) fun _ _ _ _ _ _ us hl => match us, hl with | [_], _ => rfl
  have F_is_picture := fun_mk (st := s_is_picture) l_is_picture c_is_picture k_is_picture
  have b_is_picture := F_is_picture.binds (ps := ["thing"]) fun _ _ _ _ _ _ us hl => match us, hl with | [_], _ => rfl
  have F_unfolded := fun_mk (st := s_unfolded) l_unfolded c_unfolded k_unfolded
  have b_unfolded := F_unfolded.binds (ps := ["text"]) fun _ _ _ _ _ _ us hl => match us, hl with | [_], _ => rfl
  have F_kind_of := fun_mk (st := s_kind_of) l_kind_of c_kind_of k_kind_of
  have b_kind_of := F_kind_of.binds (ps := ["picture"]) fun _ _ _ _ _ _ us hl => match us, hl with | [_], _ => rfl
  have F_room := fun_mk (st := s_room) l_room c_room k_room
  have b_room := F_room.binds (ps := ["picture"]) fun _ _ _ _ _ _ us hl => match us, hl with | [_], _ => rfl
  have F_look_edited := fun_mk (st := s_look_edited) l_look_edited c_look_edited k_look_edited
  have b_look_edited := F_look_edited.binds (ps := ["picture"]) fun _ _ _ _ _ _ us hl => match us, hl with | [_], _ => rfl
  have F_figures_of := fun_mk (st := s_figures_of) l_figures_of c_figures_of k_figures_of
  have b_figures_of := F_figures_of.binds (ps := ["amount", "before", "behind"]) fun _ _ _ _ _ _ us hl => match us, hl with | [_, _, _], _ => rfl
  have F_signed := fun_mk (st := s_signed) l_signed c_signed k_signed
  have b_signed := F_signed.binds (ps := ["symbol", "is_below"]) fun _ _ _ _ _ _ us hl => match us, hl with | [_, _], _ => rfl
  have F_whole_signs := fun_mk (st := s_whole_signs) l_whole_signs c_whole_signs k_whole_signs
  have b_whole_signs := F_whole_signs.binds (ps := ["shape", "figures"]) fun _ _ _ _ _ _ us hl => match us, hl with | [_, _], _ => rfl
  have F_with_blanks := fun_mk (st := s_with_blanks) l_with_blanks c_with_blanks k_with_blanks
  have b_with_blanks := F_with_blanks.binds (ps := ["shape", "found", "last"]) fun _ _ _ _ _ _ us hl => match us, hl with | [_, _, _], _ => rfl
  have F_edited := fun_mk (st := s_edited) l_edited c_edited k_edited
  have b_edited := F_edited.binds (ps := ["picture", "amount"]) fun _ _ _ _ _ _ us hl => match us, hl with | [_, _], _ => rfl
  have F_read_edited := fun_mk (st := s_read_edited) l_read_edited c_read_edited k_read_edited
  have b_read_edited := F_read_edited.binds (ps := ["picture", "text"]) fun _ _ _ _ _ _ us hl => match us, hl with | [_, _], _ => rfl
  have F_texts_in_all := fun_mk (st := s_texts_in_all) l_texts_in_all c_texts_in_all k_texts_in_all
  have b_texts_in_all := F_texts_in_all.binds (ps := ["picture"]) fun _ _ _ _ _ _ us hl => match us, hl with | [_], _ => rfl
  have F_law_draw := fun_mk (st := s_law_draw) l_law_draw c_law_draw k_law_draw
  have b_law_draw := F_law_draw.binds (ps := ["_law_script", "_law_town", "_law_many"]) fun _ _ _ _ _ _ us hl => match us, hl with | [_, _, _], _ => rfl
  have F_law_begun := fun_mk (st := s_law_begun) l_law_begun c_law_begun k_law_begun
  have b_law_begun := F_law_begun.binds (ps := []) fun _ _ _ _ _ _ us hl => match us, hl with | [], _ => rfl
  have F_law_places := fun_mk (st := s_law_places) l_law_places c_law_places k_law_places
  have b_law_places := F_law_places.binds (ps := ["_law_script", "_law_town", "_law_symbol", "_law_most"]) fun _ _ _ _ _ _ us hl => match us, hl with | [_, _, _, _], _ => rfl
  have F_law_an_edited := fun_mk (st := s_law_an_edited) l_law_an_edited c_law_an_edited k_law_an_edited
  have b_law_an_edited := F_law_an_edited.binds (ps := ["_law_script", "_law_town"]) fun _ _ _ _ _ _ us hl => match us, hl with | [_, _], _ => rfl
  have F_law_line := fun_mk (st := s_law_line) l_law_line c_law_line k_law_line
  have b_law_line := F_law_line.binds (ps := ["_law_parts"]) fun _ _ _ _ _ _ us hl => match us, hl with | [_], _ => rfl
  have F_law := fun_mk (st := s_law) l_law c_law k_law
  exact ⟨_, fun s v => law_binds F_law s v, fun base _ _ => by
    have C_ten_to : Cal l.prog w K mg base "ten_to" 1 ["places"] spTen := ⟨f_ten_to, _, ok_ten_to F_ten_to T , PySem.W.mg_of X G a_ten_to, F_ten_to.kp, b_ten_to⟩
    have C_cut_short : Cal l.prog w K mg base "cut_short" 1 ["top", "bottom"] spCutShort := ⟨f_cut_short, _, ok_cut_short F_cut_short T , PySem.W.mg_of X G a_cut_short, F_cut_short.kp, b_cut_short⟩
    have C_cut : Cal l.prog w K mg base "cut" 2 ["amount", "places"] (spCut K) := ⟨f_cut, _, ok_cut F_cut T C_cut_short C_ten_to, PySem.W.mg_of X G a_cut, F_cut.kp, b_cut⟩
    have MKI : MkI l.prog w K mg base C := ⟨f_init, _, fun us ws => us ++ ws, ⟨kmk, a_init, i_init, kkc⟩, ok_init__ F_init T, kb_init F_init⟩
    have C_floats : CalM l.prog w K mg base C "floats" 1 ["self"] (spFloats C) := ⟨f_floats, _, ok_floats F_floats T , ⟨a_floats, i_floats, F_floats.kp⟩, b_floats⟩
    have C_marks : CalM l.prog w K mg base C "marks" 1 ["self"] (spMarks C) := ⟨f_marks, _, ok_marks F_marks T , ⟨a_marks, i_marks, F_marks.kp⟩, b_marks⟩
    have C_before : CalM l.prog w K mg base C "before" 2 ["self"] (spBefore C) := ⟨f_before, _, ok_before F_before T C_floats, ⟨a_before, i_before, F_before.kp⟩, b_before⟩
    have C_is_suppressed : CalM l.prog w K mg base C "is_suppressed" 1 ["self"] (spSupp C) := ⟨f_is_suppressed, _, ok_is_suppressed F_is_suppressed T , ⟨a_is_suppressed, i_is_suppressed, F_is_suppressed.kp⟩, b_is_suppressed⟩
    have C_counted : Cal l.prog w K mg base "counted" 1 ["text"] spCounted := ⟨f_counted, _, ok_counted F_counted T , PySem.W.mg_of X G a_counted, F_counted.kp, b_counted⟩
    have C_written_out : Cal l.prog w K mg base "written_out" 2 ["text"] spWritten := ⟨f_written_out, _, ok_written_out F_written_out T C_counted, PySem.W.mg_of X G a_written_out, F_written_out.kp, b_written_out⟩
    have C_is_number_form : Cal l.prog w K mg base "is_number_form" 1 ["text"] spIsNum := ⟨f_is_number_form, _, ok_is_number_form F_is_number_form T , PySem.W.mg_of X G a_is_number_form, F_is_number_form.kp, b_is_number_form⟩
    have C_floating_row : Cal l.prog w K mg base "floating_row" 1 ["text"] spFloatRow := ⟨f_floating_row, _, ok_floating_row F_floating_row T , PySem.W.mg_of X G a_floating_row, F_floating_row.kp, b_floating_row⟩
    have C_lead_of : Cal l.prog w K mg base "lead_of" 2 ["text"] spLeadOf := ⟨f_lead_of, _, ok_lead_of F_lead_of T C_floating_row, PySem.W.mg_of X G a_lead_of, F_lead_of.kp, b_lead_of⟩
    have C_tail_of : Cal l.prog w K mg base "tail_of" 1 ["text"] spTailOf := ⟨f_tail_of, _, ok_tail_of F_tail_of T , PySem.W.mg_of X G a_tail_of, F_tail_of.kp, b_tail_of⟩
    have C_is_whole_part : Cal l.prog w K mg base "is_whole_part" 1 ["whole", "first"] spIsWhole := ⟨f_is_whole_part, _, ok_is_whole_part F_is_whole_part T , PySem.W.mg_of X G a_is_whole_part, F_is_whole_part.kp, b_is_whole_part⟩
    have C_shape_of : Cal l.prog w K mg base "shape_of" 3 ["text"] (spShapeOf C) := ⟨f_shape_of, _, ok_shape_of F_shape_of T C_lead_of C_tail_of MKI C_is_whole_part C_before C_is_number_form, PySem.W.mg_of X G a_shape_of, F_shape_of.kp, b_shape_of⟩
    have C_form_of : Cal l.prog w K mg base "form_of" 4 ["text"] spFormOf := ⟨f_form_of, _, ok_form_of F_form_of T C_is_number_form C_shape_of, PySem.W.mg_of X G a_form_of, F_form_of.kp, b_form_of⟩
    have C_is_picture : Cal l.prog w K mg base "is_picture" 5 ["thing"] spIsPic := ⟨f_is_picture, _, ok_is_picture F_is_picture T C_written_out C_form_of, PySem.W.mg_of X G a_is_picture, F_is_picture.kp, b_is_picture⟩
    have C_unfolded : Cal l.prog w K mg base "unfolded" 6 ["text"] spUnf := ⟨f_unfolded, _, ok_unfolded F_unfolded T C_is_picture C_written_out, PySem.W.mg_of X G a_unfolded, F_unfolded.kp, b_unfolded⟩
    have C_kind_of : Cal l.prog w K mg base "kind_of" 7 ["picture"] spKind := ⟨f_kind_of, _, ok_kind_of F_kind_of T C_form_of C_unfolded, PySem.W.mg_of X G a_kind_of, F_kind_of.kp, b_kind_of⟩
    have C_room : Cal l.prog w K mg base "room" 7 ["picture"] spRoom := ⟨f_room, _, ok_room F_room T C_unfolded C_form_of C_shape_of C_marks C_before, PySem.W.mg_of X G a_room, F_room.kp, b_room⟩
    have C_look_edited : Cal l.prog w K mg base "look_edited" 8 ["picture"] (spLook C) := ⟨f_look_edited, _, ok_look_edited F_look_edited T C_kind_of C_shape_of C_unfolded, PySem.W.mg_of X G a_look_edited, F_look_edited.kp, b_look_edited⟩
    have C_figures_of : Cal l.prog w K mg base "figures_of" 3 ["amount", "before", "behind"] (spFig K) := ⟨f_figures_of, _, ok_figures_of F_figures_of T C_cut, PySem.W.mg_of X G a_figures_of, F_figures_of.kp, b_figures_of⟩
    have C_signed : Cal l.prog w K mg base "signed" 1 ["symbol", "is_below"] spSigned := ⟨f_signed, _, ok_signed F_signed T , PySem.W.mg_of X G a_signed, F_signed.kp, b_signed⟩
    have C_whole_signs : Cal l.prog w K mg base "whole_signs" 2 ["shape", "figures"] (spWhole C) := ⟨f_whole_signs, _, ok_whole_signs F_whole_signs T C_floats, PySem.W.mg_of X G a_whole_signs, F_whole_signs.kp, b_whole_signs⟩
    have C_with_blanks : Cal l.prog w K mg base "with_blanks" 1 ["shape", "found", "last"] (spBlanks C) := ⟨f_with_blanks, _, ok_with_blanks F_with_blanks T , PySem.W.mg_of X G a_with_blanks, F_with_blanks.kp, b_with_blanks⟩
    have C_edited : Cal l.prog w K mg base "edited" 9 ["picture", "amount"] (spEdited K) := ⟨f_edited, _, ok_edited F_edited T C_look_edited C_before C_figures_of C_unfolded C_is_suppressed C_floats C_whole_signs C_with_blanks C_signed, PySem.W.mg_of X G a_edited, F_edited.kp, b_edited⟩
    have C_read_edited : Cal l.prog w K mg base "read_edited" 10 ["picture", "text"] spRead := ⟨f_read_edited, _, ok_read_edited F_read_edited T C_look_edited C_floats C_edited, PySem.W.mg_of X G a_read_edited, F_read_edited.kp, b_read_edited⟩
    have C_texts_in_all : Cal l.prog w K mg base "texts_in_all" 9 ["picture"] spTexts := ⟨f_texts_in_all, _, ok_texts_in_all F_texts_in_all T C_look_edited C_room C_ten_to, PySem.W.mg_of X G a_texts_in_all, F_texts_in_all.kp, b_texts_in_all⟩
    have CK_texts_in_all : CalK l.prog w K mg base "texts_in_all" 9 ["picture"] spTexts := ⟨f_texts_in_all, _, ok_texts_in_all F_texts_in_all T C_look_edited C_room C_ten_to, PySem.W.mg_of X G a_texts_in_all, F_texts_in_all.kp, b_texts_in_all, kb_texts F_texts_in_all⟩
    have C_law_draw : Cal l.prog w K mg base "_law_draw" 1 ["_law_script", "_law_town", "_law_many"] (spDraw K) := ⟨f_law_draw, _, ok_law_draw F_law_draw T , PySem.W.mg_of X G a_law_draw, F_law_draw.kp, b_law_draw⟩
    have C_law_begun : Cal l.prog w K mg base "_law_begun" 1 [] spBegun := ⟨f_law_begun, _, ok_law_begun F_law_begun T , PySem.W.mg_of X G a_law_begun, F_law_begun.kp, b_law_begun⟩
    have C_law_places : Cal l.prog w K mg base "_law_places" 2 ["_law_script", "_law_town", "_law_symbol", "_law_most"] (spPlaces K) := ⟨f_law_places, _, ok_law_places F_law_places T C_law_draw, PySem.W.mg_of X G a_law_places, F_law_places.kp, b_law_places⟩
    have C_law_an_edited : Cal l.prog w K mg base "_law_an_edited" 3 ["_law_script", "_law_town"] (spAnEd K) := ⟨f_law_an_edited, _, ok_law_an_edited F_law_an_edited T C_law_draw C_law_places, PySem.W.mg_of X G a_law_an_edited, F_law_an_edited.kp, b_law_an_edited⟩
    have C_law_line : Cal l.prog w K mg base "_law_line" 1 ["_law_parts"] (spLine K) := ⟨f_law_line, _, ok_law_line F_law_line T , PySem.W.mg_of X G a_law_line, F_law_line.kp, b_law_line⟩
    exact ok_law F_law T C_law_begun C_law_line C_law_an_edited C_room CK_texts_in_all C_edited C_read_edited⟩
theorem walk {l : PySem.W.OpenLaw} {q : Program} {loose : List Str} {XP : (Str → Option Value) → Heap → Prop} {YP : World → Heap → Prop} {d : DefRec} {K : Params → PySem.W.Frag} (hn : l.most = some 63) (hdf : d.params.defaults = [])
    (hY : ∀ (w : World) (h : Heap), YP w h → (K w.params).In h)
    (F : ∀ (w : World) (mg : Str → Option Value) (fa : Addr) (h : Heap), (K w.params).In h → h.Ns mainGlobals mg → mg d.name = some (.ref fa) →
      ∃ fd : FuncData, (∀ (s : Shared) (u : Value), BindsTo s fd ⟨[u], []⟩ [("_law_script", u)]) ∧ ∀ base : Heap, (K w.params).In base → base.Ns mainGlobals mg → FnOk l.prog w (K w.params) mg base CX0 11 fa fd ["_law_script"] (spLaw (K w.params))) :
    PySem.W.WalkO q loose XP YP l.row.toRowW d [] (fun f vs => PySem.call f vs) :=
  L2.walk_of (n := 63) (k := 11) (x := "_law_script") (CX := fun _ => CX0) (sp := fun w => spLaw (K w.params)) hn (by decide) hdf ⟨rfl, by decide, by decide⟩ hY F (fun _ _ a ns hl _ hS => ⟨a, ns, rfl, hS, hl, fun _ => rfl⟩) fun _ _ _ _ _ z => z
end BXR
open PySem PySem.W PyProof.Rows in
set_option maxRecDepth 100000 in
set_option maxHeartbeats 0 in
theorem PySem.Challenge.cw_boxmoves_k12_whole_texts_in_all_holds : PySem.Challenge.rw_boxmoves_k12_whole_texts_in_all.Holds := by
  w_on; o_law; k_head; (case hw => w_witness2)
  k_fill
  refine BXR.walk (l := PySem.Challenge.rw_boxmoves_k12_whole_texts_in_all) rfl rfl (fun w h Y => PySem.W.kIn_of Y) ?F
  case F =>
    intro w mg fa h KX G hmg
    refine' BXR.all_mk KX G hmg ?aC ?kpg ?khd ?kpo ?ksa ?kmk ?kkc ?n_lead ?n_whole ?n_broken ?n_tail ?n_first ?z_len ?z_abs ?z_range ?z_int ?z_str ?z_list ?z_all ?z_sum ?z_max ?z_isinstance ?z_enumerate ?v_INSERTED ?e_INSERTED ?v_FLOATS ?e_FLOATS ?v_FIGURES ?e_FIGURES ?v_MOST_FIGURES ?e_MOST_FIGURES ?v_MOST_SIGNS ?e_MOST_SIGNS ?a_ten_to ?l_ten_to ?c_ten_to ?k_ten_to ?a_cut_short ?l_cut_short ?c_cut_short ?k_cut_short ?a_cut ?l_cut ?c_cut ?k_cut ?a_init ?i_init ?l_init ?c_init ?k_init ?a_floats ?i_floats ?l_floats ?c_floats ?k_floats ?a_marks ?i_marks ?l_marks ?c_marks ?k_marks ?a_before ?i_before ?l_before ?c_before ?k_before ?a_is_suppressed ?i_is_suppressed ?l_is_suppressed ?c_is_suppressed ?k_is_suppressed ?a_counted ?l_counted ?c_counted ?k_counted ?a_written_out ?l_written_out ?c_written_out ?k_written_out ?a_is_number_form ?l_is_number_form ?c_is_number_form ?k_is_number_form ?a_floating_row ?l_floating_row ?c_floating_row ?k_floating_row ?a_lead_of ?l_lead_of ?c_lead_of ?k_lead_of ?a_tail_of ?l_tail_of ?c_tail_of ?k_tail_of ?a_is_whole_part ?l_is_whole_part ?c_is_whole_part ?k_is_whole_part ?a_shape_of ?l_shape_of ?c_shape_of ?k_shape_of ?a_form_of ?l_form_of ?c_form_of ?k_form_of ?a_is_picture ?l_is_picture ?c_is_picture ?k_is_picture ?a_unfolded ?l_unfolded ?c_unfolded ?k_unfolded ?a_kind_of ?l_kind_of ?c_kind_of ?k_kind_of ?a_room ?l_room ?c_room ?k_room ?a_look_edited ?l_look_edited ?c_look_edited ?k_look_edited ?a_figures_of ?l_figures_of ?c_figures_of ?k_figures_of ?a_signed ?l_signed ?c_signed ?k_signed ?a_whole_signs ?l_whole_signs ?c_whole_signs ?k_whole_signs ?a_with_blanks ?l_with_blanks ?c_with_blanks ?k_with_blanks ?a_edited ?l_edited ?c_edited ?k_edited ?a_read_edited ?l_read_edited ?c_read_edited ?k_read_edited ?a_texts_in_all ?l_texts_in_all ?c_texts_in_all ?k_texts_in_all ?a_law_draw ?l_law_draw ?c_law_draw ?k_law_draw ?a_law_begun ?l_law_begun ?c_law_begun ?k_law_begun ?a_law_places ?l_law_places ?c_law_places ?k_law_places ?a_law_an_edited ?l_law_an_edited ?c_law_an_edited ?k_law_an_edited ?a_law_line ?l_law_line ?c_law_line ?k_law_line ?a_law ?l_law ?c_law ?k_law
    (case aC => k_is)
    (case kpg => k_is)
    (case khd => k_is)
    (case kpo => k_is)
    (case ksa => k_is)
    (case kmk => k_is)
    (case kkc => k_is)
    (case n_lead => k_is)
    (case n_whole => k_is)
    (case n_broken => k_is)
    (case n_tail => k_is)
    (case n_first => k_is)
    (case z_len => k_is)
    (case z_abs => k_is)
    (case z_range => k_is)
    (case z_int => k_is)
    (case z_str => k_is)
    (case z_list => k_is)
    (case z_all => k_is)
    (case z_sum => k_is)
    (case z_max => k_is)
    (case z_isinstance => k_is)
    (case z_enumerate => k_is)
    (case v_INSERTED => k_is)
    (case e_INSERTED => exact ⟨_, rfl⟩)
    (case v_FLOATS => k_is)
    (case e_FLOATS => exact ⟨_, rfl⟩)
    (case v_FIGURES => k_is)
    (case e_FIGURES => exact ⟨_, rfl⟩)
    (case v_MOST_FIGURES => k_is)
    (case e_MOST_FIGURES => exact ⟨_, rfl⟩)
    (case v_MOST_SIGNS => k_is)
    (case e_MOST_SIGNS => exact ⟨_, rfl⟩)
    (case a_ten_to => k_is)
    (case l_ten_to => k_is)
    (case c_ten_to => k_is)
    (case k_ten_to => k_is)
    (case a_cut_short => k_is)
    (case l_cut_short => k_is)
    (case c_cut_short => k_is)
    (case k_cut_short => k_is)
    (case a_cut => k_is)
    (case l_cut => k_is)
    (case c_cut => k_is)
    (case k_cut => k_is)
    (case a_init => k_is)
    (case i_init => k_is)
    (case l_init => k_is)
    (case c_init => k_is)
    (case k_init => k_is)
    (case a_floats => k_is)
    (case i_floats => k_is)
    (case l_floats => k_is)
    (case c_floats => k_is)
    (case k_floats => k_is)
    (case a_marks => k_is)
    (case i_marks => k_is)
    (case l_marks => k_is)
    (case c_marks => k_is)
    (case k_marks => k_is)
    (case a_before => k_is)
    (case i_before => k_is)
    (case l_before => k_is)
    (case c_before => k_is)
    (case k_before => k_is)
    (case a_is_suppressed => k_is)
    (case i_is_suppressed => k_is)
    (case l_is_suppressed => k_is)
    (case c_is_suppressed => k_is)
    (case k_is_suppressed => k_is)
    (case a_counted => k_is)
    (case l_counted => k_is)
    (case c_counted => k_is)
    (case k_counted => k_is)
    (case a_written_out => k_is)
    (case l_written_out => k_is)
    (case c_written_out => k_is)
    (case k_written_out => k_is)
    (case a_is_number_form => k_is)
    (case l_is_number_form => k_is)
    (case c_is_number_form => k_is)
    (case k_is_number_form => k_is)
    (case a_floating_row => k_is)
    (case l_floating_row => k_is)
    (case c_floating_row => k_is)
    (case k_floating_row => k_is)
    (case a_lead_of => k_is)
    (case l_lead_of => k_is)
    (case c_lead_of => k_is)
    (case k_lead_of => k_is)
    (case a_tail_of => k_is)
    (case l_tail_of => k_is)
    (case c_tail_of => k_is)
    (case k_tail_of => k_is)
    (case a_is_whole_part => k_is)
    (case l_is_whole_part => k_is)
    (case c_is_whole_part => k_is)
    (case k_is_whole_part => k_is)
    (case a_shape_of => k_is)
    (case l_shape_of => k_is)
    (case c_shape_of => k_is)
    (case k_shape_of => k_is)
    (case a_form_of => k_is)
    (case l_form_of => k_is)
    (case c_form_of => k_is)
    (case k_form_of => k_is)
    (case a_is_picture => k_is)
    (case l_is_picture => k_is)
    (case c_is_picture => k_is)
    (case k_is_picture => k_is)
    (case a_unfolded => k_is)
    (case l_unfolded => k_is)
    (case c_unfolded => k_is)
    (case k_unfolded => k_is)
    (case a_kind_of => k_is)
    (case l_kind_of => k_is)
    (case c_kind_of => k_is)
    (case k_kind_of => k_is)
    (case a_room => k_is)
    (case l_room => k_is)
    (case c_room => k_is)
    (case k_room => k_is)
    (case a_look_edited => k_is)
    (case l_look_edited => k_is)
    (case c_look_edited => k_is)
    (case k_look_edited => k_is)
    (case a_figures_of => k_is)
    (case l_figures_of => k_is)
    (case c_figures_of => k_is)
    (case k_figures_of => k_is)
    (case a_signed => k_is)
    (case l_signed => k_is)
    (case c_signed => k_is)
    (case k_signed => k_is)
    (case a_whole_signs => k_is)
    (case l_whole_signs => k_is)
    (case c_whole_signs => k_is)
    (case k_whole_signs => k_is)
    (case a_with_blanks => k_is)
    (case l_with_blanks => k_is)
    (case c_with_blanks => k_is)
    (case k_with_blanks => k_is)
    (case a_edited => k_is)
    (case l_edited => k_is)
    (case c_edited => k_is)
    (case k_edited => k_is)
    (case a_read_edited => k_is)
    (case l_read_edited => k_is)
    (case c_read_edited => k_is)
    (case k_read_edited => k_is)
    (case a_texts_in_all => k_is)
    (case l_texts_in_all => k_is)
    (case c_texts_in_all => k_is)
    (case k_texts_in_all => k_is)
    (case a_law_draw => k_is)
    (case l_law_draw => k_is)
    (case c_law_draw => k_is)
    (case k_law_draw => k_is)
    (case a_law_begun => k_is)
    (case l_law_begun => k_is)
    (case c_law_begun => k_is)
    (case k_law_begun => k_is)
    (case a_law_places => k_is)
    (case l_law_places => k_is)
    (case c_law_places => k_is)
    (case k_law_places => k_is)
    (case a_law_an_edited => k_is)
    (case l_law_an_edited => k_is)
    (case c_law_an_edited => k_is)
    (case k_law_an_edited => k_is)
    (case a_law_line => k_is)
    (case l_law_line => k_is)
    (case c_law_line => k_is)
    (case k_law_line => k_is)
    (case a_law => k_is)
    (case l_law => k_is)
    (case c_law => k_is)
    (case k_law => k_is)
