/- THE LAW AsmNames: for every input it returns true and its arguments read as before (condition: the listed variables are laid as the text of the program lays them, which the card ties). -/
import Derived.Test.YtoolhdikfdjikaaDoorAsmB
import Derived.Test.YtoolhdikfdjikaaDoorAsmC
import Derived.Test.YtoolhdikfdjikaaDoorTie
import Derived.Test.YtoolhdikfdjikaaDoorCards
set_option linter.unusedVariables false
set_option linter.unusedSimpArgs false
set_option linter.unusedSectionVars false
set_option linter.deprecated false

/- Plain laws: a program's text is read as that program. -/
namespace Go.Proofs.YtoolhdikfdjikaaDoor
open Go Go.Den
set_option maxRecDepth 10000

def tgt (l : List Instr) (i : Nat) : Bool := l.any fun y => goes y.op && decide (y.n = i)

/-- An instruction's text. -/
def insT (g : List UInt8) (x : Instr) : List UInt8 :=
  wordS x.op ++ 32 :: ((114 :: digits x.a) ++ 32 :: ((114 :: digits x.b) ++ 32 :: ((114 :: digits x.c) ++ 32 :: ((if goes x.op then g else []) ++ digits x.n))))

def lineG (g : List UInt8) (l : List Instr) (i : Nat) (x : Instr) : List UInt8 :=
  (if tgt l i then (g ++ digits i ++ [58]) ++ 10 :: [] else []) ++ (insT g x ++ 10 :: [])

def printG (g : List UInt8) (l : List Instr) : Nat → List UInt8
  | 0 => []
  | k + 1 => printG g l k ++ lineG g l k (l.getD k default)

theorem lineG_S (l : List Instr) (i : Nat) (x : Instr) : lineS l i x = lineG [108] l i x := by
  unfold lineS lineG insT tgt
  by_cases h : (l.any fun y => goes y.op && decide (y.n = i)) = true <;> by_cases h' : goes x.op = true <;> simp [h, h']

theorem printG_S (l : List Instr) : ∀ k, printS l k = printG [108] l k
  | 0 => rfl
  | k + 1 => by rw [printS, printG, printG_S l k, lineG_S]

/-- The same, from the front. -/
def tl (g : List UInt8) (l : List Instr) : Nat → Nat → List UInt8
  | _, 0 => []
  | k, m + 1 => lineG g l k (l.getD k default) ++ tl g l (k + 1) m

theorem tl_snoc (g : List UInt8) (l : List Instr) : ∀ m k, tl g l k (m + 1) = tl g l k m ++ lineG g l (k + m) (l.getD (k + m) default)
  | 0, k => by simp [tl]
  | m + 1, k => by
    rw [tl, tl_snoc g l m (k + 1), tl, List.append_assoc]
    have : k + 1 + m = k + (m + 1) := by omega
    rw [this]

theorem printG_tl (g : List UInt8) (l : List Instr) : ∀ m, printG g l m = tl g l 0 m
  | 0 => rfl
  | m + 1 => by rw [printG, printG_tl g l m, tl_snoc, Nat.zero_add]

/-- An operation that has a word. -/
def okOp (op : Nat) : Prop := op ≤ 6 ∨ 16 < op ∧ op ≤ 38

def cleanC (c : UInt8) : Bool := !(bl c) && !(decide (c = 10)) && !(decide (c = 58)) && !(decide (c = 59))

theorem word_ok {op : Nat} (h : okOp op) : wordS op ≠ [] ∧ (wordS op).all cleanC = true ∧ idxI (fun y => decide (wordS op = y)) wordsL = op := by
  have key : ∀ op, op < 39 → okOp op → wordS op ≠ [] ∧ (wordS op).all cleanC = true ∧ idxI (fun y => decide (wordS op = y)) wordsL = op := by
    unfold okOp
    decide +kernel
  exact key op (by unfold okOp at h; omega) h

theorem clean_D {c : UInt8} (h : isD c = true) : cleanC c = true := by
  simp only [isD, Bool.and_eq_true, decide_eq_true_eq] at h
  simp only [cleanC, bl, Bool.and_eq_true, Bool.not_eq_true', Bool.or_eq_false_iff, decide_eq_false_iff_not, ← UInt8.toNat_inj]
  have e1 : (10 : UInt8).toNat = 10 := rfl
  have e2 : (58 : UInt8).toNat = 58 := rfl
  have e3 : (59 : UInt8).toNat = 59 := rfl
  rw [e1, e2, e3]; omega

theorem clean_Lt {c : UInt8} (h : isLt c = true) : cleanC c = true := by
  simp only [isLt, Bool.and_eq_true, decide_eq_true_eq] at h
  simp only [cleanC, bl, Bool.and_eq_true, Bool.not_eq_true', Bool.or_eq_false_iff, decide_eq_false_iff_not, ← UInt8.toNat_inj]
  have e1 : (10 : UInt8).toNat = 10 := rfl
  have e2 : (58 : UInt8).toNat = 58 := rfl
  have e3 : (59 : UInt8).toNat = 59 := rfl
  rw [e1, e2, e3]; omega

theorem digits_clean (n : Nat) : (digits n).all cleanC = true := by
  rw [List.all_eq_true]; exact fun c hc => clean_D (List.all_eq_true.1 (digits_all n) c hc)

theorem beg_clean {g : List UInt8} (hg : Beg g) : g.all cleanC = true := by
  rw [List.all_eq_true]; exact fun c hc => clean_Lt (List.all_eq_true.1 hg.all c hc)

theorem clean_bl {w : List UInt8} (h : w.all cleanC = true) : w.all (fun c => !bl c) = true := by
  rw [List.all_eq_true] at h ⊢
  intro c hc
  have := h c hc
  simp only [cleanC, Bool.and_eq_true] at this
  exact this.1.1.1

theorem clean_not {w : List UInt8} (h : w.all cleanC = true) : (10 : UInt8) ∉ w ∧ (58 : UInt8) ∉ w ∧ (59 : UInt8) ∉ w := by
  rw [List.all_eq_true] at h
  refine ⟨fun hc => ?_, fun hc => ?_, fun hc => ?_⟩
  · exact absurd (h _ hc) (by decide)
  · exact absurd (h _ hc) (by decide)
  · exact absurd (h _ hc) (by decide)

/-- The last word. -/
def lastW (g : List UInt8) (x : Instr) : List UInt8 := (if goes x.op then g else []) ++ digits x.n

theorem lastW_clean {g : List UInt8} (hg : Beg g) (x : Instr) : (lastW g x).all cleanC = true := by
  unfold lastW
  split
  · rw [List.all_append, beg_clean hg, digits_clean]; rfl
  · rw [List.nil_append, digits_clean]

theorem reg_clean (a : Nat) : (114 :: digits a).all cleanC = true := by
  rw [List.all_cons, digits_clean]; rfl

theorem insT_wd {g : List UInt8} (hg : Beg g) {x : Instr} (ho : okOp x.op) : wd (insT g x) [] = [wordS x.op, 114 :: digits x.a, 114 :: digits x.b, 114 :: digits x.c, lastW g x] := by
  obtain ⟨w1, w2, _⟩ := word_ok ho
  have b32 : bl 32 = true := rfl
  have hlast : lastW g x ≠ [] := by unfold lastW; simp [digits_ne]
  unfold insT
  rw [wd_word _ _ _ _ (clean_bl w2) b32, List.nil_append, if_neg w1, wd_word _ _ _ _ (clean_bl (reg_clean _)) b32, List.nil_append, if_neg (by simp), wd_word _ _ _ _ (clean_bl (reg_clean _)) b32, List.nil_append, if_neg (by simp),
    wd_word _ _ _ _ (clean_bl (reg_clean _)) b32, List.nil_append, if_neg (by simp)]
  have := wd_all (lastW g x) [] (clean_bl (lastW_clean hg x))
  rw [List.nil_append, if_neg hlast] at this
  unfold lastW at this
  rw [this]
  rfl

theorem insT_not {g : List UInt8} (hg : Beg g) {x : Instr} (ho : okOp x.op) : (10 : UInt8) ∉ insT g x ∧ (58 : UInt8) ∉ insT g x ∧ (59 : UInt8) ∉ insT g x := by
  have h1 := clean_not (word_ok ho).2.1
  have h2 := clean_not (reg_clean x.a)
  have h3 := clean_not (reg_clean x.b)
  have h4 := clean_not (reg_clean x.c)
  have h5 := clean_not (lastW_clean hg x)
  unfold lastW at h5
  unfold insT
  simp only [List.mem_append, List.mem_cons, not_or] at *
  refine ⟨⟨h1.1, by decide, h2.1, by decide, h3.1, by decide, h4.1, by decide, h5.1⟩, ⟨h1.2.1, by decide, h2.2.1, by decide, h3.2.1, by decide, h4.2.1, by decide, h5.2.1⟩, ⟨h1.2.2, by decide, h2.2.2, by decide, h3.2.2, by decide, h4.2.2, by decide, h5.2.2⟩⟩

/-- An instruction before its label is put in. -/
def zn (x : Instr) : Instr := if goes x.op then { x with n := 0 } else x

theorem insT_line {g : List UInt8} (hg : Beg g) {x : Instr} (ho : okOp x.op) (ha : x.a < 8) (hb : x.b < 8) (hc : x.c < 8) (hn : x.n < 65536) (hn' : goes x.op = true → x.n < 100) (k : Nat) (st : PS) :
    lineP (insT g x) k st = (true, { st with prog := st.prog ++ [zn x], uses := if goes x.op then st.uses ++ [(g ++ digits x.n, k, st.prog.length)] else st.uses }) := by
  obtain ⟨n1, n2, n3⟩ := insT_not hg ho
  obtain ⟨w1, w2, w3⟩ := word_ok ho
  unfold lineP
  rw [cutS_none _ n3]
  simp only
  rw [cutS_none _ n2]
  simp only [Bool.false_eq_true, if_false, insT_wd hg ho]
  rw [if_neg (by simp)]
  unfold instrS
  rw [if_neg (by simp)]
  simp only [List.getD_cons_zero, List.getD_cons_succ, regS_digits ha, regS_digits hb, regS_digits hc, w3]
  rw [if_neg (by omega), Int.toNat_natCast]
  by_cases hgo : goes x.op = true
  · simp only [hgo, if_true, lastW, labS_beg hg (hn' hgo), zn]
  · simp only [hgo, Bool.false_eq_true, if_false, lastW, List.nil_append, numS_digits (show x.n ≤ 65535 by omega), numS_V _ _ (numS_digits (show x.n ≤ 65535 by omega)), zn, Option.isSome_some]

theorem lab_line {g : List UInt8} (hg : Beg g) {i : Nat} (hi : i < 100) (k : Nat) (st : PS) (hno : lookupS (g ++ digits i) st.labels = none) :
    lineP (g ++ digits i ++ [58]) k st = (true, { st with labels := st.labels ++ [(g ++ digits i, st.prog.length)] }) := by
  have hcl : (g ++ digits i).all cleanC = true := by rw [List.all_append, beg_clean hg, digits_clean]; rfl
  have hne : g ++ digits i ≠ [] := by simp [digits_ne]
  obtain ⟨_, n2, n3⟩ := clean_not hcl
  have hwd := wd_all (g ++ digits i) [] (clean_bl hcl)
  rw [List.nil_append, if_neg hne] at hwd
  unfold lineP
  have e1 : cutS 59 (g ++ digits i ++ [58]) = (g ++ digits i ++ [58], [], false) := cutS_none _ (by
    rw [List.mem_append, not_or]; exact ⟨n3, by decide⟩)
  have e2 : cutS 58 (g ++ digits i ++ [58]) = (g ++ digits i, [], true) := cutS_at _ [] n2
  rw [e1]
  simp only
  rw [e2]
  simp only [if_true, hwd, List.getD_cons_zero, labS_beg hg hi, List.length_singleton, ne_eq, not_true_eq_false, Bool.true_eq_false, or_self, if_false, hno, Option.isSome_none, Bool.false_eq_true]
  rfl

theorem lookup_f {f : Nat → List UInt8} (hf : ∀ a b, f a = f b → a = b) (n : Nat) : ∀ is : List Nat, lookupS (f n) (is.map fun i => (f i, i)) = if n ∈ is then some n else none
  | [] => rfl
  | i :: is => by
    rw [List.map_cons, lookupS]
    by_cases h : f i = f n
    · rw [if_pos h, hf _ _ h, if_pos List.mem_cons_self]
    · rw [if_neg h, lookup_f hf n is]
      have : n ≠ i := fun e => h (by rw [e])
      simp [this]

def labs (g : List UInt8) (l : List Instr) (k : Nat) : List (List UInt8 × Nat) := ((List.range k).filter (tgt l)).map fun i => (g ++ digits i, i)

theorem labs_succ (g : List UInt8) (l : List Instr) (k : Nat) : labs g l (k + 1) = if tgt l k then labs g l k ++ [(g ++ digits k, k)] else labs g l k := by
  unfold labs
  rw [List.range_succ, List.filter_append, List.map_append]
  by_cases h : tgt l k = true <;> simp [h]

theorem beg_inj (g : List UInt8) (a b : Nat) (h : g ++ digits a = g ++ digits b) : a = b := digits_inj (List.append_cancel_left h)

/-- What the parser holds behind k instructions. -/
structure Inv (g : List UInt8) (l : List Instr) (k : Nat) (st : PS) : Prop where
  prog : st.prog = (l.take k).map zn
  labels : st.labels = labs g l k
  uses : ∀ u ∈ st.uses, u.2.2 < k ∧ goes (l.getD u.2.2 default).op = true ∧ u.1 = g ++ digits (l.getD u.2.2 default).n
  all : ∀ i, i < k → goes (l.getD i default).op = true → ∃ u ∈ st.uses, u.2.2 = i

theorem may_of {l : List Instr} (h : mayL l = true) {x : Instr} (hx : x ∈ l) : okOp x.op ∧ x.a < 8 ∧ x.b < 8 ∧ x.c < 8 ∧ (goes x.op = true → x.n < l.length) := by
  simp only [mayL, Bool.and_eq_true, decide_eq_true_eq, Bool.not_eq_true'] at h
  have h0 := List.any_eq_false.1 h.2 x hx
  have : mayI x l.length = true := by simpa using h0
  simp only [mayI, Bool.and_eq_true, Bool.or_eq_true, decide_eq_true_eq, Bool.not_eq_true'] at this
  obtain ⟨⟨h1, h2, h3⟩, h4⟩ := this
  refine ⟨h1, h2.1, h2.2, h3, fun hg => ?_⟩
  rcases h4 with h4 | h4
  · rw [hg] at h4; cases h4
  · exact h4

theorem mayL_len {l : List Instr} (h : mayL l = true) : l.length ≤ 64 := by
  simp only [mayL, Bool.and_eq_true, decide_eq_true_eq] at h; exact h.1

theorem take_getD {l : List Instr} {k : Nat} (hk : k < l.length) : l.take (k + 1) = l.take k ++ [l.getD k default] := by
  rw [List.take_succ, List.getElem?_eq_getElem hk, List.getD_eq_getElem?_getD, List.getElem?_eq_getElem hk]; rfl

theorem tl_lines {g : List UInt8} (hg : Beg g) {l : List Instr} (hm : mayL l = true) (hw : ∀ x ∈ l, x.wf) : ∀ (m k c : Nat) (st : PS), k + m = l.length → Inv g l k st →
    ∃ st', linesP (splitS 10 (tl g l k m)) c st = (0, st') ∧ Inv g l (k + m) st'
  | 0, k, c, st, _, hi => by
    refine ⟨st, ?_, hi⟩
    have : lineP [] (c + 1) st = (true, st) := rfl
    simp only [tl, splitS, linesP, this, if_true]
  | m + 1, k, c, st, hkm, hi => by
    have hk : k < l.length := by omega
    have hll := mayL_len hm
    obtain ⟨x, hx⟩ : ∃ x, l.getD k default = x := ⟨_, rfl⟩
    have hxm : x ∈ l := by rw [← hx]; exact getD_mem hk
    obtain ⟨m1, m2, m3, m4, m5⟩ := may_of hm hxm
    have hxw := hw x hxm
    have hpl : st.prog.length = k := by rw [hi.prog, List.length_map, List.length_take]; omega
    have hins := insT_not hg m1 (g := g)
    have step : ∀ (c : Nat) (st : PS), st.prog = (l.take k).map zn → st.labels = labs g l (k + 1) → (∀ u ∈ st.uses, u.2.2 < k ∧ goes (l.getD u.2.2 default).op = true ∧ u.1 = g ++ digits (l.getD u.2.2 default).n) →
        (∀ i, i < k → goes (l.getD i default).op = true → ∃ u ∈ st.uses, u.2.2 = i) → ∃ st', linesP (splitS 10 (insT g x ++ 10 :: tl g l (k + 1) m)) c st = (0, st') ∧ Inv g l (k + (m + 1)) st' := by
      intro c st p1 p2 p3 p4
      have hpl : st.prog.length = k := by rw [p1, List.length_map, List.length_take]; omega
      rw [splitS_at _ _ hins.1, linesP, insT_line hg m1 m2 m3 m4 hxw.n (fun h => by have := m5 h; omega)]
      simp only [if_true]
      have := tl_lines hg hm hw m (k + 1) (c + 1) { st with prog := st.prog ++ [zn x], uses := if goes x.op then st.uses ++ [(g ++ digits x.n, c + 1, st.prog.length)] else st.uses } (by omega) ⟨?_, p2, ?_, ?_⟩
      · have e : k + 1 + m = k + (m + 1) := by omega
        rwa [e] at this
      · show st.prog ++ [zn x] = _
        rw [take_getD hk, List.map_append, p1, hx]; rfl
      · intro u hu
        simp only at hu
        by_cases hgo : goes x.op = true
        · rw [if_pos hgo] at hu
          rcases List.mem_append.1 hu with hu | hu
          · obtain ⟨a, b⟩ := p3 u hu; exact ⟨by omega, b⟩
          · rw [List.mem_singleton.1 hu, hpl]
            simp only [hx]
            exact ⟨by omega, hgo, trivial⟩
        · rw [if_neg hgo] at hu
          obtain ⟨a, b⟩ := p3 u hu; exact ⟨by omega, b⟩
      · intro i hik hgi
        simp only
        by_cases hik' : i = k
        · subst hik'
          rw [hx] at hgi
          rw [if_pos hgi]
          exact ⟨_, List.mem_append_right _ (List.mem_singleton_self _), hpl⟩
        · obtain ⟨u, hu, e⟩ := p4 i (by omega) hgi
          refine ⟨u, ?_, e⟩
          split
          · exact List.mem_append_left _ hu
          · exact hu
    rw [tl, hx]
    unfold lineG
    by_cases ht : tgt l k = true
    · rw [if_pos ht]
      have e : ((g ++ digits k ++ [58]) ++ 10 :: [] ++ (insT g x ++ 10 :: [])) ++ tl g l (k + 1) m = (g ++ digits k ++ [58]) ++ 10 :: (insT g x ++ 10 :: tl g l (k + 1) m) := by simp
      have hn10 : (10 : UInt8) ∉ g ++ digits k ++ [58] := by
        rw [List.mem_append, List.mem_append, not_or, not_or]
        exact ⟨⟨(clean_not (beg_clean hg)).1, (clean_not (digits_clean k)).1⟩, by decide⟩
      have hno : lookupS (g ++ digits k) st.labels = none := by
        rw [hi.labels]
        unfold labs
        rw [lookup_f (f := fun i => g ++ digits i) (beg_inj g) k, if_neg]
        rw [List.mem_filter, List.mem_range]; omega
      rw [e, splitS_at _ _ hn10, linesP, lab_line hg (by omega) (c + 1) st hno]
      simp only [if_true]
      exact step (c + 1) _ hi.prog (by rw [labs_succ, if_pos ht, ← hi.labels, hpl]) hi.uses hi.all
    · rw [if_neg ht]
      have e : ([] ++ (insT g x ++ 10 :: [])) ++ tl g l (k + 1) m = insT g x ++ 10 :: tl g l (k + 1) m := by simp
      rw [e]
      exact step c st hi.prog (by rw [labs_succ, if_neg ht, ← hi.labels]) hi.uses hi.all

/-- Labels are put in: what becomes of the program. -/
def putN (l : List Instr) (p : List Instr) (j : Nat) : List Instr := p.set j { p.getD j ⟨0, 0, 0, 0, 0⟩ with n := (l.getD j default).n }

theorem resP_ok {L : List (List UInt8 × Nat)} {l : List Instr} : ∀ (us : List (List UInt8 × Nat × Nat)) (p : List Instr), (∀ u ∈ us, lookupS u.1 L = some (l.getD u.2.2 default).n ∧ (l.getD u.2.2 default).n < p.length ∧ (l.getD u.2.2 default).n < 65536) →
    resP L us 0 p = (0, us.foldl (fun p u => putN l p u.2.2) p)
  | [], _, _ => rfl
  | u :: us, p, h => by
    obtain ⟨h1, h2, h3⟩ := h u List.mem_cons_self
    rw [resP, if_pos rfl, h1]
    simp only
    rw [if_neg (by omega), Nat.mod_eq_of_lt h3]
    exact resP_ok us _ (fun v hv => by
      obtain ⟨a, b, c⟩ := h v (List.mem_cons_of_mem _ hv)
      exact ⟨a, by rw [List.length_set]; exact b, c⟩)

theorem putN_len (l p : List Instr) (j : Nat) : (putN l p j).length = p.length := by unfold putN; rw [List.length_set]

/-- A program that is right but for the labels at some places. -/
theorem fold_put {l : List Instr} : ∀ (us : List (List UInt8 × Nat × Nat)) (p : List Instr), p.length = l.length → (∀ u ∈ us, u.2.2 < l.length) →
    (∀ i, i < l.length → { p.getD i default with n := (l.getD i default).n } = l.getD i default ∧ ((p.getD i default).n ≠ (l.getD i default).n → ∃ u ∈ us, u.2.2 = i)) →
    us.foldl (fun p u => putN l p u.2.2) p = l
  | [], p, hl, _, h => by
    apply List.ext_getElem hl
    intro i h1 h2
    obtain ⟨a, b⟩ := h i h2
    rw [List.getD_eq_getElem?_getD, List.getD_eq_getElem?_getD, List.getElem?_eq_getElem h1, List.getElem?_eq_getElem h2] at a b
    simp only [Option.getD_some] at a b
    by_cases he : p[i].n = l[i].n
    · rw [← a, ← he]
    · obtain ⟨u, hu, _⟩ := b he; cases hu
  | u :: us, p, hl, hlt, h => by
    have hu := hlt u List.mem_cons_self
    rw [List.foldl_cons]
    refine fold_put us _ (by rw [putN_len, hl]) (fun v hv => hlt v (List.mem_cons_of_mem _ hv)) fun i hi => ?_
    obtain ⟨a, b⟩ := h i hi
    have hip : i < p.length := by omega
    by_cases he : i = u.2.2
    · subst he
      have e : (putN l p u.2.2).getD u.2.2 default = { p.getD u.2.2 default with n := (l.getD u.2.2 default).n } := by
        unfold putN
        rw [List.getD_eq_getElem?_getD, List.getElem?_set_self (by omega), Option.getD_some]
        congr 1 <;> simp [List.getD_eq_getElem?_getD, List.getElem?_eq_getElem hip]
      rw [e]
      exact ⟨a, fun hne => absurd rfl hne⟩
    · have e : (putN l p u.2.2).getD i default = p.getD i default := by
        unfold putN
        rw [List.getD_eq_getElem?_getD, List.getElem?_set_ne (by omega), List.getD_eq_getElem?_getD]
      rw [e]
      refine ⟨a, fun hne => ?_⟩
      obtain ⟨v, hv, ev⟩ := b hne
      rcases List.mem_cons.1 hv with rfl | hv
      · exact absurd ev.symm he
      · exact ⟨v, hv, ev⟩

/-- **A program's text is read as that program.** -/
theorem parse_print {g : List UInt8} (hg : Beg g) {l : List Instr} (hm : mayL l = true) (hw : ∀ x ∈ l, x.wf) : parseS (printG g l l.length) = (l, 0, 0) := by
  have hll := mayL_len hm
  obtain ⟨st, e1, inv⟩ := tl_lines hg hm hw l.length 0 0 ⟨[], [], []⟩ (by omega) ⟨rfl, rfl, (fun u hu => by cases hu), (fun i hi => by omega)⟩
  rw [Nat.zero_add] at inv
  have hp : st.prog = l.map zn := by rw [inv.prog, List.take_length]
  have hpl : st.prog.length = l.length := by rw [hp, List.length_map]
  have hfold : st.uses.foldl (fun p u => putN l p u.2.2) st.prog = l := by
    refine fold_put st.uses st.prog hpl (fun u hu => (inv.uses u hu).1) fun i hi => ?_
    have e : st.prog.getD i default = zn (l.getD i default) := by
      rw [hp, List.getD_eq_getElem?_getD, List.getElem?_map, List.getD_eq_getElem?_getD, List.getElem?_eq_getElem hi]; rfl
    rw [e]
    unfold zn
    by_cases hgo : goes (l.getD i default).op = true
    · rw [if_pos hgo]
      exact ⟨rfl, fun _ => inv.all i hi hgo⟩
    · rw [if_neg hgo]
      exact ⟨rfl, fun h => absurd rfl h⟩
  have hres : resP st.labels st.uses 0 st.prog = (0, l) := by
    rw [resP_ok (l := l) st.uses st.prog, hfold]
    intro u hu
    obtain ⟨u1, u2, u3⟩ := inv.uses u hu
    obtain ⟨x, hx⟩ : ∃ x, l.getD u.2.2 default = x := ⟨_, rfl⟩
    have hxm : x ∈ l := by rw [← hx]; exact getD_mem u1
    rw [hx] at u2 u3 ⊢
    have hn := (may_of hm hxm).2.2.2.2 u2
    refine ⟨?_, by rw [hpl]; exact hn, by omega⟩
    rw [u3, inv.labels]
    unfold labs
    rw [lookup_f (f := fun i => g ++ digits i) (beg_inj g) x.n, if_pos]
    rw [List.mem_filter, List.mem_range]
    refine ⟨hn, ?_⟩
    unfold tgt
    rw [List.any_eq_true]
    exact ⟨x, hxm, by rw [u2]; simp⟩
  unfold parseS
  rw [printG_tl, e1]
  simp only [hres]
  rw [if_neg (by omega), if_neg (by omega)]

end Go.Proofs.YtoolhdikfdjikaaDoor

/- Plain laws: what is read may be. -/
namespace Go.Proofs.YtoolhdikfdjikaaDoor
open Go Go.Den
set_option maxRecDepth 10000

/-- An instruction that may be, but for its label. -/
structure Half (x : Instr) : Prop where
  op : okOp x.op
  a : x.a < 8
  b : x.b < 8
  c : x.c < 8
  n : x.n < 65536

theorem Half.wf {x : Instr} (h : Half x) : x.wf := by
  have := h.op
  unfold okOp at this
  exact ⟨by omega, by have := h.a; omega, by have := h.b; omega, by have := h.c; omega, h.n⟩

structure Fit (st : PS) : Prop where
  half : ∀ x ∈ st.prog, Half x
  ats : ∀ u ∈ st.uses, u.2.2 < st.prog.length ∧ 0 < u.2.1
  all : ∀ i, i < st.prog.length → goes (st.prog.getD i default).op = true → ∃ u ∈ st.uses, u.2.2 = i

theorem regS_lt {s : List UInt8} {a : Nat} (h : regS s = some a) : a < 8 := by
  unfold regS at h
  split at h
  · cases h; omega
  · cases h

theorem idx_ok {w : List UInt8} (hw : w ≠ []) (h : 0 ≤ idxI (fun y => decide (w = y)) wordsL) : okOp (idxI (fun y => decide (w = y)) wordsL).toNat := by
  unfold idxI at h ⊢
  cases hf : wordsL.findIdx? (fun y => decide (w = y)) with
  | none => rw [hf] at h; exact absurd h (by decide)
  | some i =>
    rw [List.findIdx?_eq_some_iff_getElem] at hf
    obtain ⟨hi, he, _⟩ := hf
    simp only [decide_eq_true_eq] at he
    have key : ∀ j : Fin 39, wordsL[j.1]'j.2 ≠ [] → okOp j.1 := by unfold okOp; decide +kernel
    exact key ⟨i, hi⟩ (by show wordsL[i] ≠ []; rw [← he]; exact hw)

theorem wd_ne : ∀ (l cur : List UInt8), ∀ w ∈ wd l cur, w ≠ []
  | [], cur, w, h => by
    unfold wd at h
    split at h
    · cases h
    · rename_i hc; rw [List.mem_singleton.1 h]; exact hc
  | c :: cs, cur, w, h => by
    unfold wd at h
    split at h
    · split at h
      · exact wd_ne cs [] w h
      · rename_i hc
        rcases List.mem_cons.1 h with rfl | h
        · exact hc
        · exact wd_ne cs [] w h
    · exact wd_ne cs _ w h

theorem getD_app {α : Type} {l : List α} {x d : α} {i : Nat} : (l ++ [x]).getD i d = if i < l.length then l.getD i d else if i = l.length then x else d := by
  rw [List.getD_eq_getElem?_getD]
  by_cases h : i < l.length
  · rw [if_pos h, List.getElem?_append_left h, List.getD_eq_getElem?_getD]
  · rw [if_neg h, List.getElem?_append_right (by omega)]
    by_cases h' : i = l.length
    · rw [if_pos h', h', Nat.sub_self]; rfl
    · rw [if_neg h']
      have : 0 < i - l.length := by omega
      obtain ⟨j, hj⟩ : ∃ j, i - l.length = j + 1 := ⟨i - l.length - 1, by omega⟩
      rw [hj]; rfl

theorem instrS_fit {ws : List (List UInt8)} {line : Nat} {st : PS} (hl : 0 < line) (hw : ∀ w ∈ ws, w ≠ []) (h : Fit st) : Fit (instrS ws line st).2 := by
  unfold instrS
  split
  · exact h
  · rename_i h5
    split
    · rename_i a b c ha hb hc
      have hw0 : ws.getD 0 [] ≠ [] := by
        have h50 : 0 < ws.length := by omega
        rw [List.getD_eq_getElem?_getD, List.getElem?_eq_getElem h50]
        exact hw _ (List.getElem_mem h50)
      split
      · exact h
      · rename_i hop
        have hok := idx_ok hw0 (by omega)
        split
        · rename_i hgo
          refine ⟨fun x hx => ?_, fun u hu => ?_, fun i hi hgi => ?_⟩
          · rcases List.mem_append.1 hx with hx | hx
            · exact h.half x hx
            · rw [List.mem_singleton.1 hx]
              exact ⟨hok, regS_lt ha, regS_lt hb, regS_lt hc, (by decide : 0 < 65536)⟩
          · simp only [List.length_append, List.length_singleton]
            rcases List.mem_append.1 hu with hu | hu
            · have := h.ats u hu; omega
            · rw [List.mem_singleton.1 hu]; simp only; omega
          · simp only [List.length_append, List.length_singleton] at hi
            simp only at hgi ⊢
            by_cases hi' : i < st.prog.length
            · rw [getD_app, if_pos hi'] at hgi
              obtain ⟨u, hu, e⟩ := h.all i hi' hgi
              exact ⟨u, List.mem_append_left _ hu, e⟩
            · exact ⟨_, List.mem_append_right _ (List.mem_singleton_self _), by simp only; omega⟩
        · rename_i hgo
          refine ⟨fun x hx => ?_, fun u hu => ?_, fun i hi hgi => ?_⟩
          · rcases List.mem_append.1 hx with hx | hx
            · exact h.half x hx
            · rw [List.mem_singleton.1 hx]
              exact ⟨hok, regS_lt ha, regS_lt hb, regS_lt hc, numV_lt _⟩
          · simp only [List.length_append, List.length_singleton]
            have := h.ats u hu; omega
          · simp only [List.length_append, List.length_singleton] at hi
            simp only at hgi ⊢
            rw [getD_app] at hgi
            by_cases hi' : i < st.prog.length
            · rw [if_pos hi'] at hgi
              exact h.all i hi' hgi
            · rw [if_neg hi', if_pos (by omega)] at hgi
              exact absurd hgi hgo
    · exact h

theorem lineP_fit {s : List UInt8} {line : Nat} {st : PS} (hl : 0 < line) (h : Fit st) : Fit (lineP s line st).2 := by
  have hL : ∀ L, Fit { st with labels := L } := fun L => ⟨h.half, h.ats, h.all⟩
  unfold lineP
  simp only
  split
  · split
    · exact h
    split
    · exact h
    split
    · exact hL _
    · exact instrS_fit hl (wd_ne _ _) (hL _)
  · split
    · exact h
    · exact instrS_fit hl (wd_ne _ _) h

theorem linesP_fit : ∀ (L : List (List UInt8)) (k : Nat) (st : PS), Fit st → Fit (linesP L k st).2
  | [], _, _, h => h
  | s :: L, k, st, h => by
    have h1 := lineP_fit (s := s) (line := k + 1) (by omega) h
    unfold linesP
    split
    · exact linesP_fit L (k + 1) _ h1
    · exact h1

theorem resP_bad {L : List (List UInt8 × Nat)} : ∀ (us : List (List UInt8 × Nat × Nat)) (bad : Nat) (p q : List Instr), (∀ u ∈ us, 0 < u.2.1) → resP L us bad p = (0, q) → bad = 0
  | [], bad, p, q, _, h => by rw [resP] at h; exact (Prod.mk.injEq _ _ _ _ ▸ h).1
  | u :: us, bad, p, q, hu, h => by
    by_cases hb : bad = 0
    · exact hb
    · rw [resP, if_neg hb] at h
      exact absurd (resP_bad us bad p q (fun v hv => hu v (List.mem_cons_of_mem _ hv)) h) hb

theorem resP_good {L : List (List UInt8 × Nat)} : ∀ (us : List (List UInt8 × Nat × Nat)) (p q : List Instr), (∀ u ∈ us, u.2.2 < p.length ∧ 0 < u.2.1) → (∀ x ∈ p, Half x) → resP L us 0 p = (0, q) →
    q.length = p.length ∧ (∀ x ∈ q, Half x) ∧ (∀ i, i < p.length → (q.getD i default).op = (p.getD i default).op) ∧ (∀ i, i < p.length → (p.getD i default).n < p.length → (q.getD i default).n < p.length) ∧
      (∀ u ∈ us, (q.getD u.2.2 default).n < p.length)
  | [], p, q, _, hh, h => by
    rw [resP] at h
    cases h
    exact ⟨rfl, hh, fun _ _ => rfl, fun _ _ h => h, fun u hu => by cases hu⟩
  | u :: us, p, q, hu, hh, h => by
    have hu' : ∀ v ∈ us, 0 < v.2.1 := fun v hv => (hu v (List.mem_cons_of_mem _ hv)).2
    have hu0 := hu u List.mem_cons_self
    rw [resP, if_pos rfl] at h
    cases hl : lookupS u.1 L with
    | none =>
      rw [hl] at h
      have := resP_bad us _ p q hu' h
      omega
    | some k =>
      rw [hl] at h
      simp only at h
      split at h
      · have := resP_bad us _ p q hu' h
        omega
      · rename_i hk
        obtain ⟨p', hp'⟩ : ∃ p', p.set u.2.2 { p.getD u.2.2 ⟨0, 0, 0, 0, 0⟩ with n := k % 65536 } = p' := ⟨_, rfl⟩
        rw [hp'] at h
        have hlen : p'.length = p.length := by rw [← hp', List.length_set]
        have hself : p'.getD u.2.2 default = { p.getD u.2.2 ⟨0, 0, 0, 0, 0⟩ with n := k % 65536 } := by
          rw [← hp', List.getD_eq_getElem?_getD, List.getElem?_set_self hu0.1]; rfl
        have hne : ∀ i, i ≠ u.2.2 → p'.getD i default = p.getD i default := fun i hi => by
          rw [← hp', List.getD_eq_getElem?_getD, List.getElem?_set_ne (by omega), List.getD_eq_getElem?_getD]
        have hge : ∀ d, p.getD u.2.2 d = p[u.2.2]'hu0.1 := fun d => by
          rw [List.getD_eq_getElem?_getD, List.getElem?_eq_getElem hu0.1]; rfl
        have hkl : k % 65536 < p.length := by
          have := Nat.mod_le k 65536; omega
        have hh' : ∀ x ∈ p', Half x := fun x hx => by
          rw [← hp'] at hx
          rcases List.mem_or_eq_of_mem_set hx with hx | rfl
          · exact hh x hx
          · obtain ⟨h1, h2, h3, h4, h5⟩ := hh _ (List.getElem_mem hu0.1)
            rw [hge]
            exact ⟨h1, h2, h3, h4, Nat.mod_lt _ (by decide)⟩
        obtain ⟨q1, q2, q3, q4, q5⟩ := resP_good us p' q (fun v hv => by rw [hlen]; exact hu v (List.mem_cons_of_mem _ hv)) hh' h
        rw [hlen] at q1 q3 q4 q5
        have hin : (q.getD u.2.2 default).n < p.length := q4 _ hu0.1 (by rw [hself]; exact hkl)
        refine ⟨q1, q2, fun i hi => ?_, fun i hi hn => ?_, fun v hv => ?_⟩
        · rw [q3 i hi]
          by_cases he : i = u.2.2
          · subst he; rw [hself, hge, hge]
          · rw [hne i he]
        · by_cases he : i = u.2.2
          · rw [he]; exact hin
          · exact q4 i hi (by rw [hne i he]; exact hn)
        · rcases List.mem_cons.1 hv with rfl | hv
          · exact hin
          · exact q5 v hv

theorem parse_good (s : List UInt8) (h : (parseS s).2.2 = 0) : mayL (parseS s).1 = true ∧ ∀ x ∈ (parseS s).1, x.wf := by
  have hfit := linesP_fit (splitS 10 s) 0 ⟨[], [], []⟩ ⟨fun x hx => by (cases hx), fun u hu => by (cases hu), fun i hi => by (simp at hi)⟩
  unfold parseS at h ⊢
  generalize linesP (splitS 10 s) 0 ⟨[], [], []⟩ = q at h hfit ⊢
  obtain ⟨b, st⟩ := q
  simp only at h hfit ⊢
  cases hr : resP st.labels st.uses b st.prog with
  | mk b' p =>
    rw [hr] at h
    simp only at h ⊢
    by_cases hb : b' > 0
    · rw [if_pos hb] at h; cases h
    · rw [if_neg hb] at h ⊢
      by_cases hp : p.length > 64
      · rw [if_pos hp] at h; cases h
      · rw [if_neg hp]
        have hb0 : b' = 0 := by omega
        subst hb0
        obtain rfl := resP_bad st.uses b st.prog p (fun u hu => (hfit.ats u hu).2) hr
        obtain ⟨q1, q2, q3, q4, q5⟩ := resP_good st.uses st.prog p hfit.ats hfit.half hr
        refine ⟨?_, fun x hx => (q2 x hx).wf⟩
        simp only [mayL, Bool.and_eq_true, decide_eq_true_eq, Bool.not_eq_true']
        refine ⟨by omega, ?_⟩
        rw [List.any_eq_false]
        intro x hx
        obtain ⟨i, hi, rfl⟩ := List.getElem_of_mem hx
        have hge : p.getD i default = p[i] := by rw [List.getD_eq_getElem?_getD, List.getElem?_eq_getElem hi]; rfl
        obtain ⟨h1, h2, h3, h4, _⟩ := q2 _ hx
        have hgn : goes p[i].op = true → p[i].n < p.length := fun hg => by
          have e := q3 i (by omega)
          rw [hge] at e
          rw [e] at hg
          obtain ⟨u, hu, rfl⟩ := hfit.all i (by omega) hg
          have := q5 u hu
          rw [hge] at this
          omega
        have : mayI p[i] p.length = true := by
          simp only [mayI, Bool.and_eq_true, Bool.or_eq_true, decide_eq_true_eq, Bool.not_eq_true']
          refine ⟨⟨h1, ⟨h2, h3⟩, h4⟩, ?_⟩
          cases hg : goes p[i].op with
          | false => exact .inl rfl
          | true => exact .inr (hgn hg)
        simp [this]

theorem parse_bad (s : List UInt8) (h : (parseS s).2.2 ≠ 0) : (parseS s).1 = [] ∧ ((parseS s).2.2 = 3 ↔ 0 < (parseS s).2.1) := by
  unfold parseS at h ⊢
  simp only at h ⊢
  generalize resP (linesP (splitS 10 s) 0 ⟨[], [], []⟩).2.labels (linesP (splitS 10 s) 0 ⟨[], [], []⟩).2.uses (linesP (splitS 10 s) 0 ⟨[], [], []⟩).1 (linesP (splitS 10 s) 0 ⟨[], [], []⟩).2.prog = q at h ⊢
  by_cases hp : q.1 > 0
  · rw [if_pos hp]
    exact ⟨rfl, fun _ => hp, fun _ => rfl⟩
  · rw [if_neg hp] at h ⊢
    by_cases hq : q.2.length > 64
    · rw [if_pos hq]
      exact ⟨rfl, fun h => absurd h (by decide), fun h => absurd h (by decide)⟩
    · rw [if_neg hq] at h
      exact absurd rfl h

theorem digits_len5 {n : Nat} (h : n < 65536) : (digits n).length ≤ 5 := by
  by_cases h1 : n < 10
  · rw [digits_1 h1]; simp
  by_cases h2 : n < 100
  · rw [digits_2 (by omega) h2]; simp
  by_cases h3 : n < 1000
  · rw [digits_3 (by omega) h3]; simp
  by_cases h4 : n < 10000
  · rw [digits_4 (by omega) h4]; simp
  · rw [digits_5 (by omega) (by omega)]; simp

theorem lineG_len {g : List UInt8} (hg : Beg g) (l : List Instr) {i : Nat} (hi : i < 100) {x : Instr} (hx : Half x) : (lineG g l i x).length ≤ 60 := by
  have h1 := wordS_len x.op
  have h2 := hg.le
  have h3 := digits_len2 hi
  have h4 := digits_len5 hx.n
  have ha : (digits x.a).length = 1 := by rw [digits_1 (by have := hx.a; omega)]; rfl
  have hb : (digits x.b).length = 1 := by rw [digits_1 (by have := hx.b; omega)]; rfl
  have hc : (digits x.c).length = 1 := by rw [digits_1 (by have := hx.c; omega)]; rfl
  unfold lineG insT
  split <;> split <;> simp only [List.length_append, List.length_cons, List.length_nil] <;> omega

theorem half_of {l : List Instr} (hm : mayL l = true) (hw : ∀ x ∈ l, x.wf) {x : Instr} (hx : x ∈ l) : Half x := by
  obtain ⟨h1, h2, h3, h4, _⟩ := may_of hm hx
  exact ⟨h1, h2, h3, h4, (hw x hx).n⟩

theorem printG_len {g : List UInt8} (hg : Beg g) {l : List Instr} (hm : mayL l = true) (hw : ∀ x ∈ l, x.wf) : ∀ k, k ≤ l.length → (printG g l k).length ≤ k * 60
  | 0, _ => Nat.le_refl _
  | k + 1, h => by
    have ih := printG_len hg hm hw k (by omega)
    have := mayL_len hm
    have hl := lineG_len hg l (i := k) (by omega) (half_of hm hw (getD_mem (show k < l.length by omega)))
    rw [printG, List.length_append]; omega

theorem beg_l : Beg [108] := ⟨by decide, by decide, by decide⟩

theorem print_len {l : List Instr} (hm : mayL l = true) (hw : ∀ x ∈ l, x.wf) : (printS l l.length).length ≤ 3840 := by
  have := mayL_len hm
  have h := printG_len beg_l hm hw l.length (Nat.le_refl _)
  rw [printG_S]; omega

theorem parse_back {l : List Instr} (hm : mayL l = true) (hw : ∀ x ∈ l, x.wf) : parseS (printS l l.length) = (l, 0, 0) := by
  rw [printG_S]; exact parse_print beg_l hm hw

end Go.Proofs.YtoolhdikfdjikaaDoor

/- The law AsmNames. -/
namespace Go.Proofs.YtoolhdikfdjikaaDoor
open Go Go.Den
set_option maxRecDepth 10000

/-- Does a label's letter stand at this place? -/
def sepC (c : UInt8) : Bool := decide (c.toNat = 10) || decide (c.toNat = 32)
def firstAt (s : List UInt8) (i : Nat) : Bool := decide (i = 0) || sepC (s.getD (i - 1) 0)
def labAt (s : List UInt8) (i : Nat) : Bool := decide ((s.getD i 0).toNat = 108) && firstAt s i && decide (i + 1 < s.length) && isD (s.getD (i + 1) 0)

def renK (g s : List UInt8) : Nat → List UInt8
  | 0 => []
  | k + 1 => renK g s k ++ (if labAt s k then g else [s.getD k 0])

theorem renK_len {g s : List UInt8} (hg : g.length ≤ 4) : ∀ k, (renK g s k).length ≤ 4 * k
  | 0 => Nat.le_refl _
  | k + 1 => by
    have := renK_len hg (s := s) k
    rw [renK, List.length_append]
    split
    · omega
    · rw [List.length_singleton]; omega

theorem take_getD0 {s : List UInt8} {k : Nat} (hk : k < s.length) : s.take (k + 1) = s.take k ++ [s.getD k 0] := by
  rw [List.take_succ, List.getElem?_eq_getElem hk, List.getD_eq_getElem?_getD, List.getElem?_eq_getElem hk]; rfl

/-- The same, letter by letter. -/
def ren (g : List UInt8) : Bool → List UInt8 → List UInt8
  | _, [] => []
  | first, c :: r => (if decide (c.toNat = 108) && first && decide (r ≠ []) && isD (r.getD 0 0) then g else [c]) ++ ren g (sepC c) r

theorem renK_ren (g s : List UInt8) : ∀ (r p : List UInt8), s = p ++ r → renK g s s.length = renK g s p.length ++ ren g (firstAt s p.length) r
  | [], p, h => by simp at h; subst h; simp [ren]
  | c :: r, p, h => by
    have ih := renK_ren g s r (p ++ [c]) (by rw [h]; simp)
    have hc : s.getD p.length 0 = c := by
      rw [h, List.getD_eq_getElem?_getD, List.getElem?_append_right (Nat.le_refl _), Nat.sub_self]; rfl
    have hx : s.getD (p.length + 1) 0 = r.getD 0 0 := by
      rw [h, List.getD_eq_getElem?_getD, List.getElem?_append_right (by omega), Nat.add_sub_cancel_left, List.getD_eq_getElem?_getD]; rfl
    have hl : decide (p.length + 1 < s.length) = decide (r ≠ []) := by
      rw [h]
      cases r <;> simp
    have hla : labAt s p.length = (decide (c.toNat = 108) && firstAt s p.length && decide (r ≠ []) && isD (r.getD 0 0)) := by
      unfold labAt; rw [hc, hx, hl]
    have hf : firstAt s (p.length + 1) = sepC c := by
      unfold firstAt; rw [Nat.add_sub_cancel, hc]; simp
    rw [ih, List.length_append, List.length_singleton, renK, hla, hc, hf, ren, List.append_assoc]

theorem renK_all (g s : List UInt8) : renK g s s.length = ren g true s := by
  have := renK_ren g s s [] rfl
  simpa [renK, firstAt] using this

theorem sep_clean {c : UInt8} (h : cleanC c = true ∨ c = 58) : sepC c = false := by
  rcases h with h | rfl
  · simp only [cleanC, bl, Bool.and_eq_true, Bool.not_eq_true', Bool.or_eq_false_iff, decide_eq_false_iff_not, ← UInt8.toNat_inj] at h
    have e1 : (10 : UInt8).toNat = 10 := rfl
    rw [e1] at h
    simp only [sepC, Bool.or_eq_false_iff, decide_eq_false_iff_not]
    omega
  · rfl

/-- Within a word nothing is changed. -/
theorem ren_in (g : List UInt8) : ∀ (w r : List UInt8), (∀ c ∈ w, sepC c = false) → ren g false (w ++ r) = w ++ ren g false r
  | [], _, _ => rfl
  | c :: w, r, h => by
    rw [List.cons_append, ren, h c List.mem_cons_self, ren_in g w r (fun x hx => h x (List.mem_cons_of_mem _ hx))]
    simp

/-- A word that is no label, and what parts it from the next one. -/
theorem ren_word (g : List UInt8) {c b : UInt8} {w r : List UInt8} (hw : ∀ x ∈ c :: w, sepC x = false) (hb : sepC b = true) (hno : c.toNat ≠ 108 ∨ isD ((w ++ b :: r).getD 0 0) = false) (hb' : b.toNat ≠ 108) :
    ren g true (c :: w ++ b :: r) = c :: w ++ b :: ren g true r := by
  have e1 : ren g true (c :: (w ++ b :: r)) = [c] ++ ren g false (w ++ b :: r) := by
    rw [ren, hw c List.mem_cons_self]
    rcases hno with h | h
    · simp [h]
    · rw [h]; simp
  rw [List.cons_append, e1, ren_in g w _ (fun x hx => hw x (List.mem_cons_of_mem _ hx)), ren, hb]
  simp [hb']

/-- A label. -/
theorem ren_lab (g : List UInt8) {b : UInt8} {w r : List UInt8} (hw : ∀ x ∈ w, sepC x = false) (hd : isD (w.getD 0 0) = true) (hne : w ≠ []) (hb : sepC b = true) (hb' : b.toNat ≠ 108) :
    ren g true (108 :: w ++ b :: r) = g ++ w ++ b :: ren g true r := by
  have e0 : (w ++ b :: r).getD 0 0 = w.getD 0 0 := by
    cases w with
    | nil => exact absurd rfl hne
    | cons _ _ => rfl
  have e2 : w ++ b :: r ≠ [] := by simp
  have e1 : ren g true (108 :: (w ++ b :: r)) = g ++ ren g false (w ++ b :: r) := by
    rw [ren, e0, hd]
    have e3 : sepC 108 = false := rfl
    have e4 : (108 : UInt8).toNat = 108 := rfl
    simp [e2, e3, e4]
  rw [List.cons_append, e1, ren_in g w _ hw, ren, hb]
  simp [hb']

theorem clean_sep {w : List UInt8} (h : w.all cleanC = true) : ∀ x ∈ w, sepC x = false := fun x hx => sep_clean (.inl (List.all_eq_true.1 h x hx))

theorem digits_head (n : Nat) : ∃ d r, digits n = d :: r ∧ isD d = true := by
  cases h : digits n with
  | nil => exact absurd h (digits_ne n)
  | cons d r =>
    have := digits_all n
    rw [h, List.all_cons, Bool.and_eq_true] at this
    exact ⟨d, r, rfl, this.1⟩

def wh : List UInt8 → Bool
  | [] => false
  | c :: w => decide (c.toNat ≠ 108) || (decide (w ≠ []) && !isD (w.getD 0 0))

theorem word_head {op : Nat} (h : okOp op) : ∃ c w, wordS op = c :: w ∧ (c.toNat ≠ 108 ∨ w ≠ [] ∧ isD (w.getD 0 0) = false) := by
  have key : ∀ op, op < 39 → okOp op → wh (wordS op) = true := by
    unfold okOp
    decide +kernel
  have := key op (by unfold okOp at h; omega) h
  cases e : wordS op with
  | nil => rw [e] at this; cases this
  | cons c w =>
    rw [e] at this
    refine ⟨c, w, rfl, ?_⟩
    simpa [wh] using this

theorem ren_reg (g : List UInt8) (a : Nat) (r : List UInt8) : ren g true ((114 :: digits a) ++ 32 :: r) = (114 :: digits a) ++ 32 :: ren g true r :=
  ren_word g (clean_sep (reg_clean a)) rfl (.inl (by decide)) (by decide)

theorem ren_last {g : List UInt8} (x : Instr) (r : List UInt8) : ren g true (lastW [108] x ++ 10 :: r) = lastW g x ++ 10 :: ren g true r := by
  obtain ⟨d, w, e, hd⟩ := digits_head x.n
  unfold lastW
  split
  · have := ren_lab g (b := 10) (w := digits x.n) (r := r) (clean_sep (digits_clean x.n)) (by rw [e]; exact hd) (digits_ne _) rfl (by decide)
    simpa using this
  · simp only [List.nil_append]
    have hs := clean_sep (digits_clean x.n)
    rw [e] at hs ⊢
    refine ren_word g hs rfl (.inl ?_) (by decide)
    simp only [isD, Bool.and_eq_true, decide_eq_true_eq] at hd
    omega

theorem ren_ins {g : List UInt8} {x : Instr} (ho : okOp x.op) (r : List UInt8) : ren g true (insT [108] x ++ 10 :: r) = insT g x ++ 10 :: ren g true r := by
  obtain ⟨c, w, e, h⟩ := word_head ho
  have hs := clean_sep (word_ok ho).2.1
  unfold insT
  simp only [List.append_assoc, List.cons_append]
  rw [e] at hs ⊢
  have e1 := ren_word g (b := 32) (r := 114 :: (digits x.a ++ 32 :: 114 :: (digits x.b ++ 32 :: 114 :: (digits x.c ++ 32 :: ((if goes x.op = true then [108] else []) ++ (digits x.n ++ 10 :: r)))))) hs rfl (by
    rcases h with h | ⟨h1, h2⟩
    · exact .inl h
    · right
      cases w with
      | nil => exact absurd rfl h1
      | cons _ _ => exact h2) (by decide)
  have e2 := ren_last (g := g) x r
  unfold lastW at e2
  rw [List.append_assoc, List.append_assoc] at e2
  have r1 := ren_reg g x.a (114 :: (digits x.b ++ 32 :: 114 :: (digits x.c ++ 32 :: ((if goes x.op = true then [108] else []) ++ (digits x.n ++ 10 :: r)))))
  have r2 := ren_reg g x.b (114 :: (digits x.c ++ 32 :: ((if goes x.op = true then [108] else []) ++ (digits x.n ++ 10 :: r))))
  have r3 := ren_reg g x.c ((if goes x.op = true then [108] else []) ++ (digits x.n ++ 10 :: r))
  simp only [List.cons_append] at e1 r1 r2 r3 ⊢
  rw [e1, r1, r2, r3, e2]

theorem ren_line {g : List UInt8} (l : List Instr) (i : Nat) {x : Instr} (ho : okOp x.op) (r : List UInt8) : ren g true (lineG [108] l i x ++ r) = lineG g l i x ++ ren g true r := by
  unfold lineG
  split
  · have hs : ∀ y ∈ digits i ++ [58], sepC y = false := fun y hy => by
      rcases List.mem_append.1 hy with hy | hy
      · exact clean_sep (digits_clean i) y hy
      · rw [List.mem_singleton.1 hy]; rfl
    obtain ⟨d, w, e, hd⟩ := digits_head i
    have e1 := ren_lab g (b := 10) (w := digits i ++ [58]) (r := insT [108] x ++ 10 :: r) hs (by rw [e]; exact hd) (by simp) rfl (by decide)
    have e2 := ren_ins (g := g) ho r
    simp only [List.append_assoc, List.cons_append, List.nil_append] at e1 e2 ⊢
    rw [e1, e2]
  · have e2 := ren_ins (g := g) ho r
    simp only [List.append_assoc, List.cons_append, List.nil_append] at e2 ⊢
    exact e2

theorem ren_tl {g : List UInt8} {l : List Instr} (hm : mayL l = true) : ∀ (m k : Nat), k + m = l.length → ren g true (tl [108] l k m) = tl g l k m
  | 0, _, _ => rfl
  | m + 1, k, h => by
    rw [tl, ren_line l k (may_of hm (getD_mem (show k < l.length by omega))).1, ren_tl hm m (k + 1) (by omega), tl]

theorem parse_names {g : List UInt8} (hg : Beg g) {l : List Instr} (hm : mayL l = true) (hw : ∀ x ∈ l, x.wf) : parseS (renK g (printS l l.length) (printS l l.length).length) = (l, 0, 0) := by
  rw [renK_all, printG_S, printG_tl, ren_tl hm l.length 0 (by omega), ← printG_tl]
  exact parse_print hg hm hw

theorem AsmNames_D (v : AV) (l : List Instr) (g : List UInt8) (hw : ∀ x ∈ l, x.wf) (hv : Rv v 5 (l.map I5)) (hl : l.length < 2^63) (hg : g.length < 2^63) (H : List AObj) (lo : Option Nat) :
    D X (.fn (.func fn_law23_AsmNames) [] []) [v, S g] ⟨H, lo⟩ = some (.ret (.bool true) ⟨H, lo⟩) := by
  refine D_fn pf_law23_AsmNames rfl rfl rfl fun N hN => ?_
  by_cases hb : l.length > 200 ∨ g.length < 1 ∨ g.length > 4
  · by_cases h1 : (l.length : Int) > 200
    · simp (maxSteps := 2000000) (disch := omega) only [F1, ↓Int.cast_ofNat_Int, ↓R1, R2, C1, P1, O1, V1, V2, V3, reduceCtorEq, Nat.reduceEqDiff, Nat.reduceBEq, Nat.reduceAdd, Nat.reduceSub, Nat.reduceMul, Nat.reduceLeDiff, Nat.reduceLT, Int.reduceEq, Int.reduceAdd, Int.reduceSub, Int.reduceMul, Int.reduceLT, Int.reduceLE, Int.reduceNeg, Int.reduceToNat, wrap_i64, wrap_u64, wrap_u8, wrap_u16, wrap_u32, wrap_i32, base_get0, base_get, base_set0, base_set, base_take, take_self, take_app1, pf_law23_AsmNames, hv.lenM, h1, wakes_D, take_self hN]
    · by_cases h2 : (g.length : Int) < 1
      · simp (maxSteps := 2000000) (disch := omega) only [F1, ↓Int.cast_ofNat_Int, ↓R1, R2, C1, P1, O1, V1, V2, V3, reduceCtorEq, Nat.reduceEqDiff, Nat.reduceBEq, Nat.reduceAdd, Nat.reduceSub, Nat.reduceMul, Nat.reduceLeDiff, Nat.reduceLT, Int.reduceEq, Int.reduceAdd, Int.reduceSub, Int.reduceMul, Int.reduceLT, Int.reduceLE, Int.reduceNeg, Int.reduceToNat, wrap_i64, wrap_u64, wrap_u8, wrap_u16, wrap_u32, wrap_i32, base_get0, base_get, base_set0, base_set, base_take, take_self, take_app1, pf_law23_AsmNames, hv.lenM, h1, h2, wakes_D, take_self hN]
      · have h3 : (g.length : Int) > 4 := by omega
        simp (maxSteps := 2000000) (disch := omega) only [F1, ↓Int.cast_ofNat_Int, ↓R1, R2, C1, P1, O1, V1, V2, V3, reduceCtorEq, Nat.reduceEqDiff, Nat.reduceBEq, Nat.reduceAdd, Nat.reduceSub, Nat.reduceMul, Nat.reduceLeDiff, Nat.reduceLT, Int.reduceEq, Int.reduceAdd, Int.reduceSub, Int.reduceMul, Int.reduceLT, Int.reduceLE, Int.reduceNeg, Int.reduceToNat, wrap_i64, wrap_u64, wrap_u8, wrap_u16, wrap_u32, wrap_i32, base_get0, base_get, base_set0, base_set, base_take, take_self, take_app1, pf_law23_AsmNames, hv.lenM, h1, h2, h3, wakes_D, take_self hN]
  · have h1 : ¬ (l.length : Int) > 200 := by omega
    have h2 : ¬ (g.length : Int) < 1 := by omega
    have h3 : ¬ (g.length : Int) > 4 := by omega
    simp (maxSteps := 2000000) (disch := omega) only [F1, ↓Int.cast_ofNat_Int, ↓R1, R2, C1, P1, O1, V1, V2, V3, reduceCtorEq, Nat.reduceEqDiff, Nat.reduceBEq, Nat.reduceAdd, Nat.reduceSub, Nat.reduceMul, Nat.reduceLeDiff, Nat.reduceLT, Int.reduceEq, Int.reduceAdd, Int.reduceSub, Int.reduceMul, Int.reduceLT, Int.reduceLE, Int.reduceNeg, Int.reduceToNat, wrap_i64, wrap_u64, wrap_u8, wrap_u16, wrap_u32, wrap_i32, base_get0, base_get, base_set0, base_set, base_take, take_self, take_app1, pf_law23_AsmNames, hv.lenM, h1, h2, h3, wakes_D, take_self hN]
    refine wp_loopN g.length (fun k e H' => H' = H ∧ e 0 = v ∧ e 1 = S g ∧ e 5 = .int .i64 k ∧ ∀ j, j < k → isLt (g.getD j 0) = true) 0 (by omega) ?_ ?_
    · simp (maxSteps := 2000000) (disch := omega) only [F1, ↓Int.cast_ofNat_Int, ↓R1, R2, C1, P1, O1, V1, V2, V3, reduceCtorEq, Nat.reduceEqDiff, Nat.reduceBEq, Nat.reduceAdd, Nat.reduceSub, Nat.reduceMul, Nat.reduceLeDiff, Nat.reduceLT, Int.reduceEq, Int.reduceAdd, Int.reduceSub, Int.reduceMul, Int.reduceLT, Int.reduceLE, Int.reduceNeg, Int.reduceToNat, wrap_i64, wrap_u64, wrap_u8, wrap_u16, wrap_u32, wrap_i32, base_get0, base_get, base_set0, base_set, base_take, take_self, take_app1]
      exact fun j hj => absurd hj (Nat.not_lt_zero j)
    · rintro k hk e H' ⟨rfl, e0, e1, e5, hi⟩ n hn
      simp (maxSteps := 2000000) (disch := omega) only [condK_dec, F1, ↓Int.cast_ofNat_Int, ↓R1, R2, C1, P1, O1, V1, V2, V3, reduceCtorEq, Nat.reduceEqDiff, Nat.reduceBEq, Nat.reduceAdd, Nat.reduceSub, Nat.reduceMul, Nat.reduceLeDiff, Nat.reduceLT, Int.reduceEq, Int.reduceAdd, Int.reduceSub, Int.reduceMul, Int.reduceLT, Int.reduceLE, Int.reduceNeg, Int.reduceToNat, wrap_i64, wrap_u64, wrap_u8, wrap_u16, wrap_u32, wrap_i32, base_get0, base_get, base_set0, base_set, base_take, take_self, take_app1, l1_law23_AsmNames, e0, e1, e5]
      refine ⟨fun h => ?_, fun h => ?_⟩
      · have hk' : k < g.length := by omega
        obtain ⟨c, hc⟩ : ∃ c, g.getD k 0 = c := ⟨_, rfl⟩
        rw [hc]
        refine ⟨by omega, gK_keep 43 (.bool (!isLt c)) [0, 1, 5] rfl rfl ?_ fun e0' => ?_⟩
        · simp (maxSteps := 2000000) (disch := omega) only [R4, F1, ↓Int.cast_ofNat_Int, ↓R1, R2, C1, P1, O1, V1, V2, V3, reduceCtorEq, Nat.reduceEqDiff, Nat.reduceBEq, Nat.reduceAdd, Nat.reduceSub, Nat.reduceMul, Nat.reduceLeDiff, Nat.reduceLT, Int.reduceEq, Int.reduceAdd, Int.reduceSub, Int.reduceMul, Int.reduceLT, Int.reduceLE, Int.reduceNeg, Int.reduceToNat, wrap_i64, wrap_u64, wrap_u8, wrap_u16, wrap_u32, wrap_i32, base_get0, base_get, base_set0, base_set, base_take, take_self, take_app1, e0, e1, e5, hc]
          (repeat' (first | apply And.intro | intro _))
          all_goals first | omega | (refine congrArg AV.bool (Bool.eq_iff_iff.2 ?_); simp [isLt]; try (intros; omega))
        simp (maxSteps := 2000000) (disch := omega) only [condK_dec, F1, ↓Int.cast_ofNat_Int, ↓R1, R2, C1, P1, O1, V1, V2, V3, reduceCtorEq, Nat.reduceEqDiff, Nat.reduceBEq, Nat.reduceAdd, Nat.reduceSub, Nat.reduceMul, Nat.reduceLeDiff, Nat.reduceLT, Int.reduceEq, Int.reduceAdd, Int.reduceSub, Int.reduceMul, Int.reduceLT, Int.reduceLE, Int.reduceNeg, Int.reduceToNat, wrap_i64, wrap_u64, wrap_u8, wrap_u16, wrap_u32, wrap_i32, base_get0, base_get, base_set0, base_set, base_take, take_self, take_app1, e0, e1, e5]
        refine ⟨fun hb => ?_, fun hb => ?_⟩
        · simp (maxSteps := 2000000) (disch := omega) only [F1, ↓Int.cast_ofNat_Int, ↓R1, R2, C1, P1, O1, V1, V2, V3, reduceCtorEq, Nat.reduceEqDiff, Nat.reduceBEq, Nat.reduceAdd, Nat.reduceSub, Nat.reduceMul, Nat.reduceLeDiff, Nat.reduceLT, Int.reduceEq, Int.reduceAdd, Int.reduceSub, Int.reduceMul, Int.reduceLT, Int.reduceLE, Int.reduceNeg, Int.reduceToNat, wrap_i64, wrap_u64, wrap_u8, wrap_u16, wrap_u32, wrap_i32, base_get0, base_get, base_set0, base_set, base_take, take_self, take_app1, e0, e1, e5]
          exact ⟨hk', all_succ hi (by rw [hc]; simpa using hb)⟩
        · simp (maxSteps := 2000000) (disch := omega) only [F1, ↓Int.cast_ofNat_Int, ↓R1, R2, C1, P1, O1, V1, V2, V3, reduceCtorEq, Nat.reduceEqDiff, Nat.reduceBEq, Nat.reduceAdd, Nat.reduceSub, Nat.reduceMul, Nat.reduceLeDiff, Nat.reduceLT, Int.reduceEq, Int.reduceAdd, Int.reduceSub, Int.reduceMul, Int.reduceLT, Int.reduceLE, Int.reduceNeg, Int.reduceToNat, wrap_i64, wrap_u64, wrap_u8, wrap_u16, wrap_u32, wrap_i32, base_get0, base_get, base_set0, base_set, base_take, take_self, take_app1, wakes_D, take_self hn]
      · have hall : g.all isLt = true := by
          rw [List.all_eq_true]
          intro c hc
          obtain ⟨j, hj, rfl⟩ := List.getElem_of_mem hc
          have := hi j (by omega)
          rwa [List.getD_eq_getElem?_getD, List.getElem?_eq_getElem hj] at this
        have hpr := Print_D v l hw hv (by omega) H' none
        cases hml : mayL l with
        | false =>
          rw [hml] at hpr
          simp only [Bool.false_eq_true, if_false] at hpr
          simp (maxSteps := 2000000) (disch := omega) only [F1, ↓Int.cast_ofNat_Int, ↓R1, R2, C1, P1, O1, V1, V2, V3, reduceCtorEq, Nat.reduceEqDiff, Nat.reduceBEq, Nat.reduceAdd, Nat.reduceSub, Nat.reduceMul, Nat.reduceLeDiff, Nat.reduceLT, Int.reduceEq, Int.reduceAdd, Int.reduceSub, Int.reduceMul, Int.reduceLT, Int.reduceLE, Int.reduceNeg, Int.reduceToNat, wrap_i64, wrap_u64, wrap_u8, wrap_u16, wrap_u32, wrap_i32, base_get0, base_get, base_set0, base_set, base_take, take_self, take_app1, e0, e1, e5, hpr, wakes_D, take_self hn]
        | true =>
          rw [hml] at hpr
          simp only [if_true] at hpr
          have hrl := print_len hml hw
          have hre := parse_names ⟨fun e => by (rw [e] at h2; exact h2 (by decide)), by omega, hall⟩ hml hw
          generalize printS l l.length = s at hpr hrl hre
          simp (maxSteps := 2000000) (disch := omega) only [F1, ↓Int.cast_ofNat_Int, ↓R1, R2, C1, P1, O1, V1, V2, V3, reduceCtorEq, Nat.reduceEqDiff, Nat.reduceBEq, Nat.reduceAdd, Nat.reduceSub, Nat.reduceMul, Nat.reduceLeDiff, Nat.reduceLT, Int.reduceEq, Int.reduceAdd, Int.reduceSub, Int.reduceMul, Int.reduceLT, Int.reduceLE, Int.reduceNeg, Int.reduceToNat, wrap_i64, wrap_u64, wrap_u8, wrap_u16, wrap_u32, wrap_i32, base_get0, base_get, base_set0, base_set, base_take, take_self, take_app1, e0, e1, e5, hpr, wakes_D, take_self hn]
          refine wp_loopN s.length (fun k e H'' => H'' = H' ∧ e 0 = v ∧ e 1 = S g ∧ e 6 = S s ∧ e 8 = S (renK g s k) ∧ e 9 = .int .i64 k) 0 (by omega) ?_ ?_
          · simp (maxSteps := 2000000) (disch := omega) only [F1, ↓Int.cast_ofNat_Int, ↓R1, R2, C1, P1, O1, V1, V2, V3, reduceCtorEq, Nat.reduceEqDiff, Nat.reduceBEq, Nat.reduceAdd, Nat.reduceSub, Nat.reduceMul, Nat.reduceLeDiff, Nat.reduceLT, Int.reduceEq, Int.reduceAdd, Int.reduceSub, Int.reduceMul, Int.reduceLT, Int.reduceLE, Int.reduceNeg, Int.reduceToNat, wrap_i64, wrap_u64, wrap_u8, wrap_u16, wrap_u32, wrap_i32, base_get0, base_get, base_set0, base_set, base_take, take_self, take_app1, e0, e1, renK]
          rintro k hk e H'' ⟨rfl, e0, e1, e6, e8, e9⟩ n hn
          simp (maxSteps := 2000000) (disch := omega) only [condK_dec, F1, ↓Int.cast_ofNat_Int, ↓R1, R2, C1, P1, O1, V1, V2, V3, reduceCtorEq, Nat.reduceEqDiff, Nat.reduceBEq, Nat.reduceAdd, Nat.reduceSub, Nat.reduceMul, Nat.reduceLeDiff, Nat.reduceLT, Int.reduceEq, Int.reduceAdd, Int.reduceSub, Int.reduceMul, Int.reduceLT, Int.reduceLE, Int.reduceNeg, Int.reduceToNat, wrap_i64, wrap_u64, wrap_u8, wrap_u16, wrap_u32, wrap_i32, base_get0, base_get, base_set0, base_set, base_take, take_self, take_app1, l2_law23_AsmNames, e0, e1, e6, e8, e9]
          refine ⟨fun h => ?_, fun h => ?_⟩
          · have hk' : k < s.length := by omega
            obtain ⟨c, hc⟩ : ∃ c, s.getD k 0 = c := ⟨_, rfl⟩
            obtain ⟨d, hd⟩ : ∃ d, s.getD (k - 1) 0 = d := ⟨_, rfl⟩
            obtain ⟨x, hx⟩ : ∃ x, s.getD (k + 1) 0 = x := ⟨_, rfl⟩
            refine gK_keep 10 (.bool (firstAt s k)) [0, 1, 6, 8, 9] rfl rfl ?_ fun q0 => ?_
            · by_cases hk0 : k = 0
              · subst hk0
                simp (maxSteps := 2000000) (disch := omega) only [R4, F1, ↓Int.cast_ofNat_Int, ↓R1, R2, C1, P1, O1, V1, V2, V3, reduceCtorEq, Nat.reduceEqDiff, Nat.reduceBEq, Nat.reduceAdd, Nat.reduceSub, Nat.reduceMul, Nat.reduceLeDiff, Nat.reduceLT, Int.reduceEq, Int.reduceAdd, Int.reduceSub, Int.reduceMul, Int.reduceLT, Int.reduceLE, Int.reduceNeg, Int.reduceToNat, wrap_i64, wrap_u64, wrap_u8, wrap_u16, wrap_u32, wrap_i32, base_get0, base_get, base_set0, base_set, base_take, take_self, take_app1, e0, e1, e6, e8, e9, Int.ofNat_zero]
                all_goals rfl
              · have hki : ¬ (k : Int) = 0 := by omega
                have hkj : ((k : Int) - 1).toNat = k - 1 := by omega
                simp (maxSteps := 2000000) (disch := omega) only [R4, F1, ↓Int.cast_ofNat_Int, ↓R1, R2, C1, P1, O1, V1, V2, V3, reduceCtorEq, Nat.reduceEqDiff, Nat.reduceBEq, Nat.reduceAdd, Nat.reduceSub, Nat.reduceMul, Nat.reduceLeDiff, Nat.reduceLT, Int.reduceEq, Int.reduceAdd, Int.reduceSub, Int.reduceMul, Int.reduceLT, Int.reduceLE, Int.reduceNeg, Int.reduceToNat, wrap_i64, wrap_u64, wrap_u8, wrap_u16, wrap_u32, wrap_i32, base_get0, base_get, base_set0, base_set, base_take, take_self, take_app1, e0, e1, e6, e8, e9, hki, hkj, hd]
                have hfa : firstAt s k = sepC d := by unfold firstAt; rw [hd]; simp [hk0]
                (repeat' (first | apply And.intro | intro _))
                all_goals first | omega | (refine congrArg AV.bool (Bool.eq_iff_iff.2 ?_); simp [hfa, sepC]; try (intros; omega))
            have hla : labAt s k = (decide (c.toNat = 108) && firstAt s k && decide (k + 1 < s.length) && isD x) := by unfold labAt; rw [hc, hx]
            have hrs : renK g s (k + 1) = renK g s k ++ (if labAt s k then g else [c]) := by rw [renK, hc]
            have hrl2 := renK_len (s := s) (show g.length ≤ 4 by omega) k
            have hkk : ((k : Int) + 1).toNat = k + 1 := by omega
            generalize labAt s k = lb at hla hrs
            generalize firstAt s k = fb at hla
            simp (maxSteps := 2000000) (disch := omega) only [condK_dec, F1, ↓Int.cast_ofNat_Int, ↓R1, R2, C1, P1, O1, V1, V2, V3, reduceCtorEq, Nat.reduceEqDiff, Nat.reduceBEq, Nat.reduceAdd, Nat.reduceSub, Nat.reduceMul, Nat.reduceLeDiff, Nat.reduceLT, Int.reduceEq, Int.reduceAdd, Int.reduceSub, Int.reduceMul, Int.reduceLT, Int.reduceLE, Int.reduceNeg, Int.reduceToNat, wrap_i64, wrap_u64, wrap_u8, wrap_u16, wrap_u32, wrap_i32, base_get0, base_get, base_set0, base_set, base_take, take_self, take_app1, e0, e1, e6, e8, e9, hc, hd, hx]
            refine ⟨by omega, gK_keep 102 (.bool lb) [0, 1, 6, 8, 9] rfl rfl ?_ fun q1 => ?_⟩
            · cases fb
              · simp (maxSteps := 2000000) (disch := omega) only [R4, F1, ↓Int.cast_ofNat_Int, ↓R1, R2, C1, P1, O1, V1, V2, V3, reduceCtorEq, Nat.reduceEqDiff, Nat.reduceBEq, Nat.reduceAdd, Nat.reduceSub, Nat.reduceMul, Nat.reduceLeDiff, Nat.reduceLT, Int.reduceEq, Int.reduceAdd, Int.reduceSub, Int.reduceMul, Int.reduceLT, Int.reduceLE, Int.reduceNeg, Int.reduceToNat, wrap_i64, wrap_u64, wrap_u8, wrap_u16, wrap_u32, wrap_i32, base_get0, base_get, base_set0, base_set, base_take, take_self, take_app1, e0, e1, e6, e8, e9, hkk, hx]
                (repeat' (first | apply And.intro | intro _))
                all_goals first | omega | (refine congrArg AV.bool (Bool.eq_iff_iff.2 ?_); simp [hla]; try (intros; omega))
              · simp (maxSteps := 2000000) (disch := omega) only [R4, F1, ↓Int.cast_ofNat_Int, ↓R1, R2, C1, P1, O1, V1, V2, V3, reduceCtorEq, Nat.reduceEqDiff, Nat.reduceBEq, Nat.reduceAdd, Nat.reduceSub, Nat.reduceMul, Nat.reduceLeDiff, Nat.reduceLT, Int.reduceEq, Int.reduceAdd, Int.reduceSub, Int.reduceMul, Int.reduceLT, Int.reduceLE, Int.reduceNeg, Int.reduceToNat, wrap_i64, wrap_u64, wrap_u8, wrap_u16, wrap_u32, wrap_i32, base_get0, base_get, base_set0, base_set, base_take, take_self, take_app1, e0, e1, e6, e8, e9, hkk, hx]
                (repeat' (first | apply And.intro | intro _))
                all_goals first | omega | (refine congrArg AV.bool (Bool.eq_iff_iff.2 ?_); simp [hla, isD]; try (intros; omega))
            cases lb
            · have hdt : List.drop k (List.take (k + 1) s) = [c] := by
                rw [take_getD0 hk', List.drop_left' (by rw [List.length_take]; omega), hc]
              simp (maxSteps := 2000000) (disch := omega) only [F1, ↓Int.cast_ofNat_Int, ↓R1, R2, C1, P1, O1, V1, V2, V3, reduceCtorEq, Nat.reduceEqDiff, Nat.reduceBEq, Nat.reduceAdd, Nat.reduceSub, Nat.reduceMul, Nat.reduceLeDiff, Nat.reduceLT, Int.reduceEq, Int.reduceAdd, Int.reduceSub, Int.reduceMul, Int.reduceLT, Int.reduceLE, Int.reduceNeg, Int.reduceToNat, wrap_i64, wrap_u64, wrap_u8, wrap_u16, wrap_u32, wrap_i32, base_get0, base_get, base_set0, base_set, base_take, take_self, take_app1, e0, e1, e6, e8, e9, hrs, hkk, hdt]
              exact ⟨⟨by omega, by omega⟩, by (try simp only [List.length_singleton]); unfold strRoom; omega, hk'⟩
            · simp (maxSteps := 2000000) (disch := omega) only [F1, ↓Int.cast_ofNat_Int, ↓R1, R2, C1, P1, O1, V1, V2, V3, reduceCtorEq, Nat.reduceEqDiff, Nat.reduceBEq, Nat.reduceAdd, Nat.reduceSub, Nat.reduceMul, Nat.reduceLeDiff, Nat.reduceLT, Int.reduceEq, Int.reduceAdd, Int.reduceSub, Int.reduceMul, Int.reduceLT, Int.reduceLE, Int.reduceNeg, Int.reduceToNat, wrap_i64, wrap_u64, wrap_u8, wrap_u16, wrap_u32, wrap_i32, base_get0, base_get, base_set0, base_set, base_take, take_self, take_app1, e0, e1, e6, e8, e9, hrs]
              exact ⟨by unfold strRoom; omega, hk'⟩
          · have hks : k = s.length := by omega
            subst hks
            obtain ⟨r, d1, d2, d3⟩ := Parse_D (renK g s s.length) (by have := renK_len (s := s) (show g.length ≤ 4 by omega) s.length; omega) H'' none
            rw [hre] at d1 d2
            have hrow := row_D r v l l d2 hv (by omega) (by omega) H'' none
            simp (maxSteps := 2000000) (disch := omega) only [F1, ↓Int.cast_ofNat_Int, ↓R1, R2, C1, P1, O1, V1, V2, V3, reduceCtorEq, Nat.reduceEqDiff, Nat.reduceBEq, Nat.reduceAdd, Nat.reduceSub, Nat.reduceMul, Nat.reduceLeDiff, Nat.reduceLT, Int.reduceEq, Int.reduceAdd, Int.reduceSub, Int.reduceMul, Int.reduceLT, Int.reduceLE, Int.reduceNeg, Int.reduceToNat, wrap_i64, wrap_u64, wrap_u8, wrap_u16, wrap_u32, wrap_i32, base_get0, base_get, base_set0, base_set, base_take, take_self, take_app1, e0, e1, e6, e8, e9, d1, hrow, eq_self, decide_true, wakes_D, take_self hn]

end Go.Proofs.YtoolhdikfdjikaaDoor

/- THE LAW AsmNames: the row's statement and the card. -/
namespace Go.Proofs.YtoolhdikfdjikaaDoor
open Go Go.Den Go.RowKit Go.ChangeShapes Go.WideShapes Go.ChangeAt
set_option maxRecDepth 100000

theorem asmNames_lifted (os : Os) (started : os.Started) (H : Type) (enc : TypeId × Value → H) :
    ReturnsInHanded {} Tryd.checked os 6 .any (fun w args => (Rows.asmNamesSpec.pre enc Tryd.prog Tryd.f6 [] false w args ∧ laidMetH Tryd.prog Rows.asmPrintsRow.laid w) ∧ sizedMet enc Tryd.prog Tryd.f6 (OpenSpec.ofChange Rows.asmNamesSpec) false w args)
      (Rows.asmNamesSpec.post enc Tryd.prog Tryd.f6 false true false false) := by
  refine returnsInHanded_of_change_and (C := Tryd.checked) (X := fun w _ => laidMetH Tryd.prog Rows.asmPrintsRow.laid w) (fun _ _ _ hh h => h.of_heap hh) own started (by kernel_rfl) Tryd.func6
    (ChangeSpec.witness_shaped (enc := enc) (C := Tryd.checked) (os := os) (X := fun w _ => laidMetH Tryd.prog Rows.asmPrintsRow.laid w) false (World.laidAll Tryd.prog os Rows.asmPrintsRow.laid) #[.slice none 0 0, .string ⟨#[]⟩] 8 (World.laidAll_os _ _ _)
      (World.shaped_of_ZipB (by kernel_rfl) (by kernel_rfl)) (by kernel_rfl) (by kernel_rfl) (by kernel_rfl)
      (by rw [MakeChecks.laidMetH_plain _ _ _ (by kernel_rfl)]; exact laidMet_laidAll _ (by kernel_rfl) (by kernel_rfl))) ?_
  intro W base args ds gs before hval0 hW _ _ hL _
  have hval : ∀ (j : Nat) t v, Tryd.f6.params[j]? = some t → args[j]? = some v → Value.okWide Tryd.prog W .any base t v := hval0
  have hW' := hW
  obtain ⟨p, q, hA0, hV, rfl, _, _⟩ := hW
  have hA : DataW.TrodAll enc Tryd.prog W 0 (fun _ => true) true Tryd.f6.params.toList args.toList ds p := hA0
  have hlt := hW'.lt
  rw [Tryd.params6] at hA hval
  obtain ⟨v0, v1, d0, d1, p0, p1, rfl, rfl, rfl, h0, h1⟩ := trodAll_two hA
  obtain ⟨rfl, rfl⟩ := trodVars_none hV
  obtain ⟨x0, l0, hx0, hr0, hw0, hl0⟩ := open_prog (hval 0 22 v0 rfl rfl) h0
  obtain ⟨l1, hx1, hl1⟩ := open_text (hval 1 9 v1 rfl rfl) h1
  refine (law_calls hL (f := 6) Tryd.func6 (by kernel_rfl) (by kernel_rfl) (args := [x0, S l1]) ⟨_, _, rfl, hx0, _, _, rfl, hx1, rfl⟩
    (AsmNames_D x0 l0 l1 hw0 hr0 (by simp only [maxLen] at hl0; omega) (by simp only [maxLen] at hl1; omega) [] none)).mono fun e W' ⟨he, hb⟩ => ?_
  subst he
  exact ⟨_, rfl, _, _, _, [], _, [], hW', trodAll_mk1 (shut_bool Tryd.underlying4 _), below_all (by kernel_rfl) hb (by kernel_rfl) hA (fun y hy => hlt y (List.mem_append_left _ hy)), rfl, hb.frame _, fun h => by cases h⟩

theorem asmNames_holds : Rows.AsmNamesSaid :=
  OpenClaim.holds_of_wide 6 Tryd.f6 rfl rfl rfl rfl rfl rfl rfl ⟨rfl, rfl, rfl, rfl, rfl⟩ rfl rfl rfl rfl rfl (by kernel_rfl) Tryd.func6 (by kernel_rfl)
    (of_decide_eq_true (by kernel_rfl)) (by unfold Func.isWrapper; first | (rw [if_pos (by decide +kernel)]; kernel_rfl) | (rw [if_neg (by decide +kernel)]; exact ⟨rfl, rfl⟩))
    (fun os started H enc _ => asmNames_lifted os started H enc)

theorem asmNames_card : Rows.AsmNamesCardSaid :=
  Claim7.holds_tied_plain_at .later [] [.data, .data, .data, .data, .sentinel, .sentinel, .widerDeep, .pinned] true (true, "b379dfead7e90a075b2b282c5a6b53afaefb664c95e336b969e95bced20790b8") true asmNames_holds (fun _ h => by cases h) (by kernel_rfl) (fun _ h => by cases h) asmNames_row_tie rfl ⟨rfl, rfl⟩ (by kernel_rfl) rfl
    (fun f fn hf hfn => by
      obtain rfl : f = 6 := Option.some.inj ((show Tryd.prog.funcNamed "bailiwick/bailiwicklaw23.AsmNames" = some 6 by kernel_rfl).symm.trans hf) |>.symm
      obtain rfl : fn = Tryd.f6 := (Option.some.inj (Tryd.func6.symm.trans hfn)).symm
      exact ⟨by kernel_rfl, fun j t ht => by
        rw [Tryd.params6] at ht
        have hm : t ∈ [22, 9] := by simpa using Array.mem_of_getElem? ht
        have hall : ([22, 9].all fun u => !Tryd.prog.wantsStandIn u) = true := by kernel_rfl
        exact (show Tryd.prog.wantsStandIn t = false by simpa using List.all_eq_true.1 hall t hm)⟩)
    (by kernel_rfl)
#print axioms asmNames_card

end Go.Proofs.YtoolhdikfdjikaaDoor
