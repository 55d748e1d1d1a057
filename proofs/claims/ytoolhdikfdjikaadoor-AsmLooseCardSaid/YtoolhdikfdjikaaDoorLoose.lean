/- THE LAW AsmLoose: for every input it returns true and its arguments read as before (condition: the listed variables are laid as the text of the program lays them, which the card ties). -/
import Derived.Test.YtoolhdikfdjikaaDoorAsmB
import Derived.Test.YtoolhdikfdjikaaDoorAsmC
import Derived.Test.YtoolhdikfdjikaaDoorTie
import Derived.Test.YtoolhdikfdjikaaDoorCards
set_option linter.unusedVariables false
set_option linter.unusedSimpArgs false
set_option linter.unusedSectionVars false
set_option linter.deprecated false

/- Plain laws: a program's text is read as that program. -/
namespace Go.Proofs.YtoolhdikfdjikaaDoor
open Go Go.Den
set_option maxRecDepth 10000

def tgt (l : List Instr) (i : Nat) : Bool := l.any fun y => goes y.op && decide (y.n = i)

/-- An instruction's text. -/
def insT (g : List UInt8) (x : Instr) : List UInt8 :=
  wordS x.op ++ 32 :: ((114 :: digits x.a) ++ 32 :: ((114 :: digits x.b) ++ 32 :: ((114 :: digits x.c) ++ 32 :: ((if goes x.op then g else []) ++ digits x.n))))

def lineG (g : List UInt8) (l : List Instr) (i : Nat) (x : Instr) : List UInt8 :=
  (if tgt l i then (g ++ digits i ++ [58]) ++ 10 :: [] else []) ++ (insT g x ++ 10 :: [])

def printG (g : List UInt8) (l : List Instr) : Nat → List UInt8
  | 0 => []
  | k + 1 => printG g l k ++ lineG g l k (l.getD k default)

theorem lineG_S (l : List Instr) (i : Nat) (x : Instr) : lineS l i x = lineG [108] l i x := by
  unfold lineS lineG insT tgt
  by_cases h : (l.any fun y => goes y.op && decide (y.n = i)) = true <;> by_cases h' : goes x.op = true <;> simp [h, h']

theorem printG_S (l : List Instr) : ∀ k, printS l k = printG [108] l k
  | 0 => rfl
  | k + 1 => by rw [printS, printG, printG_S l k, lineG_S]

/-- The same, from the front. -/
def tl (g : List UInt8) (l : List Instr) : Nat → Nat → List UInt8
  | _, 0 => []
  | k, m + 1 => lineG g l k (l.getD k default) ++ tl g l (k + 1) m

theorem tl_snoc (g : List UInt8) (l : List Instr) : ∀ m k, tl g l k (m + 1) = tl g l k m ++ lineG g l (k + m) (l.getD (k + m) default)
  | 0, k => by simp [tl]
  | m + 1, k => by
    rw [tl, tl_snoc g l m (k + 1), tl, List.append_assoc]
    have : k + 1 + m = k + (m + 1) := by omega
    rw [this]

theorem printG_tl (g : List UInt8) (l : List Instr) : ∀ m, printG g l m = tl g l 0 m
  | 0 => rfl
  | m + 1 => by rw [printG, printG_tl g l m, tl_snoc, Nat.zero_add]

/-- An operation that has a word. -/
def okOp (op : Nat) : Prop := op ≤ 6 ∨ 16 < op ∧ op ≤ 38

def cleanC (c : UInt8) : Bool := !(bl c) && !(decide (c = 10)) && !(decide (c = 58)) && !(decide (c = 59))

theorem word_ok {op : Nat} (h : okOp op) : wordS op ≠ [] ∧ (wordS op).all cleanC = true ∧ idxI (fun y => decide (wordS op = y)) wordsL = op := by
  have key : ∀ op, op < 39 → okOp op → wordS op ≠ [] ∧ (wordS op).all cleanC = true ∧ idxI (fun y => decide (wordS op = y)) wordsL = op := by
    unfold okOp
    decide +kernel
  exact key op (by unfold okOp at h; omega) h

theorem clean_D {c : UInt8} (h : isD c = true) : cleanC c = true := by
  simp only [isD, Bool.and_eq_true, decide_eq_true_eq] at h
  simp only [cleanC, bl, Bool.and_eq_true, Bool.not_eq_true', Bool.or_eq_false_iff, decide_eq_false_iff_not, ← UInt8.toNat_inj]
  have e1 : (10 : UInt8).toNat = 10 := rfl
  have e2 : (58 : UInt8).toNat = 58 := rfl
  have e3 : (59 : UInt8).toNat = 59 := rfl
  rw [e1, e2, e3]; omega

theorem clean_Lt {c : UInt8} (h : isLt c = true) : cleanC c = true := by
  simp only [isLt, Bool.and_eq_true, decide_eq_true_eq] at h
  simp only [cleanC, bl, Bool.and_eq_true, Bool.not_eq_true', Bool.or_eq_false_iff, decide_eq_false_iff_not, ← UInt8.toNat_inj]
  have e1 : (10 : UInt8).toNat = 10 := rfl
  have e2 : (58 : UInt8).toNat = 58 := rfl
  have e3 : (59 : UInt8).toNat = 59 := rfl
  rw [e1, e2, e3]; omega

theorem digits_clean (n : Nat) : (digits n).all cleanC = true := by
  rw [List.all_eq_true]; exact fun c hc => clean_D (List.all_eq_true.1 (digits_all n) c hc)

theorem beg_clean {g : List UInt8} (hg : Beg g) : g.all cleanC = true := by
  rw [List.all_eq_true]; exact fun c hc => clean_Lt (List.all_eq_true.1 hg.all c hc)

theorem clean_bl {w : List UInt8} (h : w.all cleanC = true) : w.all (fun c => !bl c) = true := by
  rw [List.all_eq_true] at h ⊢
  intro c hc
  have := h c hc
  simp only [cleanC, Bool.and_eq_true] at this
  exact this.1.1.1

theorem clean_not {w : List UInt8} (h : w.all cleanC = true) : (10 : UInt8) ∉ w ∧ (58 : UInt8) ∉ w ∧ (59 : UInt8) ∉ w := by
  rw [List.all_eq_true] at h
  refine ⟨fun hc => ?_, fun hc => ?_, fun hc => ?_⟩
  · exact absurd (h _ hc) (by decide)
  · exact absurd (h _ hc) (by decide)
  · exact absurd (h _ hc) (by decide)

/-- The last word. -/
def lastW (g : List UInt8) (x : Instr) : List UInt8 := (if goes x.op then g else []) ++ digits x.n

theorem lastW_clean {g : List UInt8} (hg : Beg g) (x : Instr) : (lastW g x).all cleanC = true := by
  unfold lastW
  split
  · rw [List.all_append, beg_clean hg, digits_clean]; rfl
  · rw [List.nil_append, digits_clean]

theorem reg_clean (a : Nat) : (114 :: digits a).all cleanC = true := by
  rw [List.all_cons, digits_clean]; rfl

theorem insT_wd {g : List UInt8} (hg : Beg g) {x : Instr} (ho : okOp x.op) : wd (insT g x) [] = [wordS x.op, 114 :: digits x.a, 114 :: digits x.b, 114 :: digits x.c, lastW g x] := by
  obtain ⟨w1, w2, _⟩ := word_ok ho
  have b32 : bl 32 = true := rfl
  have hlast : lastW g x ≠ [] := by unfold lastW; simp [digits_ne]
  unfold insT
  rw [wd_word _ _ _ _ (clean_bl w2) b32, List.nil_append, if_neg w1, wd_word _ _ _ _ (clean_bl (reg_clean _)) b32, List.nil_append, if_neg (by simp), wd_word _ _ _ _ (clean_bl (reg_clean _)) b32, List.nil_append, if_neg (by simp),
    wd_word _ _ _ _ (clean_bl (reg_clean _)) b32, List.nil_append, if_neg (by simp)]
  have := wd_all (lastW g x) [] (clean_bl (lastW_clean hg x))
  rw [List.nil_append, if_neg hlast] at this
  unfold lastW at this
  rw [this]
  rfl

theorem insT_not {g : List UInt8} (hg : Beg g) {x : Instr} (ho : okOp x.op) : (10 : UInt8) ∉ insT g x ∧ (58 : UInt8) ∉ insT g x ∧ (59 : UInt8) ∉ insT g x := by
  have h1 := clean_not (word_ok ho).2.1
  have h2 := clean_not (reg_clean x.a)
  have h3 := clean_not (reg_clean x.b)
  have h4 := clean_not (reg_clean x.c)
  have h5 := clean_not (lastW_clean hg x)
  unfold lastW at h5
  unfold insT
  simp only [List.mem_append, List.mem_cons, not_or] at *
  refine ⟨⟨h1.1, by decide, h2.1, by decide, h3.1, by decide, h4.1, by decide, h5.1⟩, ⟨h1.2.1, by decide, h2.2.1, by decide, h3.2.1, by decide, h4.2.1, by decide, h5.2.1⟩, ⟨h1.2.2, by decide, h2.2.2, by decide, h3.2.2, by decide, h4.2.2, by decide, h5.2.2⟩⟩

/-- An instruction before its label is put in. -/
def zn (x : Instr) : Instr := if goes x.op then { x with n := 0 } else x

theorem insT_line {g : List UInt8} (hg : Beg g) {x : Instr} (ho : okOp x.op) (ha : x.a < 8) (hb : x.b < 8) (hc : x.c < 8) (hn : x.n < 65536) (hn' : goes x.op = true → x.n < 100) (k : Nat) (st : PS) :
    lineP (insT g x) k st = (true, { st with prog := st.prog ++ [zn x], uses := if goes x.op then st.uses ++ [(g ++ digits x.n, k, st.prog.length)] else st.uses }) := by
  obtain ⟨n1, n2, n3⟩ := insT_not hg ho
  obtain ⟨w1, w2, w3⟩ := word_ok ho
  unfold lineP
  rw [cutS_none _ n3]
  simp only
  rw [cutS_none _ n2]
  simp only [Bool.false_eq_true, if_false, insT_wd hg ho]
  rw [if_neg (by simp)]
  unfold instrS
  rw [if_neg (by simp)]
  simp only [List.getD_cons_zero, List.getD_cons_succ, regS_digits ha, regS_digits hb, regS_digits hc, w3]
  rw [if_neg (by omega), Int.toNat_natCast]
  by_cases hgo : goes x.op = true
  · simp only [hgo, if_true, lastW, labS_beg hg (hn' hgo), zn]
  · simp only [hgo, Bool.false_eq_true, if_false, lastW, List.nil_append, numS_digits (show x.n ≤ 65535 by omega), numS_V _ _ (numS_digits (show x.n ≤ 65535 by omega)), zn, Option.isSome_some]

theorem lab_line {g : List UInt8} (hg : Beg g) {i : Nat} (hi : i < 100) (k : Nat) (st : PS) (hno : lookupS (g ++ digits i) st.labels = none) :
    lineP (g ++ digits i ++ [58]) k st = (true, { st with labels := st.labels ++ [(g ++ digits i, st.prog.length)] }) := by
  have hcl : (g ++ digits i).all cleanC = true := by rw [List.all_append, beg_clean hg, digits_clean]; rfl
  have hne : g ++ digits i ≠ [] := by simp [digits_ne]
  obtain ⟨_, n2, n3⟩ := clean_not hcl
  have hwd := wd_all (g ++ digits i) [] (clean_bl hcl)
  rw [List.nil_append, if_neg hne] at hwd
  unfold lineP
  have e1 : cutS 59 (g ++ digits i ++ [58]) = (g ++ digits i ++ [58], [], false) := cutS_none _ (by
    rw [List.mem_append, not_or]; exact ⟨n3, by decide⟩)
  have e2 : cutS 58 (g ++ digits i ++ [58]) = (g ++ digits i, [], true) := cutS_at _ [] n2
  rw [e1]
  simp only
  rw [e2]
  simp only [if_true, hwd, List.getD_cons_zero, labS_beg hg hi, List.length_singleton, ne_eq, not_true_eq_false, Bool.true_eq_false, or_self, if_false, hno, Option.isSome_none, Bool.false_eq_true]
  rfl

theorem lookup_f {f : Nat → List UInt8} (hf : ∀ a b, f a = f b → a = b) (n : Nat) : ∀ is : List Nat, lookupS (f n) (is.map fun i => (f i, i)) = if n ∈ is then some n else none
  | [] => rfl
  | i :: is => by
    rw [List.map_cons, lookupS]
    by_cases h : f i = f n
    · rw [if_pos h, hf _ _ h, if_pos List.mem_cons_self]
    · rw [if_neg h, lookup_f hf n is]
      have : n ≠ i := fun e => h (by rw [e])
      simp [this]

def labs (g : List UInt8) (l : List Instr) (k : Nat) : List (List UInt8 × Nat) := ((List.range k).filter (tgt l)).map fun i => (g ++ digits i, i)

theorem labs_succ (g : List UInt8) (l : List Instr) (k : Nat) : labs g l (k + 1) = if tgt l k then labs g l k ++ [(g ++ digits k, k)] else labs g l k := by
  unfold labs
  rw [List.range_succ, List.filter_append, List.map_append]
  by_cases h : tgt l k = true <;> simp [h]

theorem beg_inj (g : List UInt8) (a b : Nat) (h : g ++ digits a = g ++ digits b) : a = b := digits_inj (List.append_cancel_left h)

/-- What the parser holds behind k instructions. -/
structure Inv (g : List UInt8) (l : List Instr) (k : Nat) (st : PS) : Prop where
  prog : st.prog = (l.take k).map zn
  labels : st.labels = labs g l k
  uses : ∀ u ∈ st.uses, u.2.2 < k ∧ goes (l.getD u.2.2 default).op = true ∧ u.1 = g ++ digits (l.getD u.2.2 default).n
  all : ∀ i, i < k → goes (l.getD i default).op = true → ∃ u ∈ st.uses, u.2.2 = i

theorem may_of {l : List Instr} (h : mayL l = true) {x : Instr} (hx : x ∈ l) : okOp x.op ∧ x.a < 8 ∧ x.b < 8 ∧ x.c < 8 ∧ (goes x.op = true → x.n < l.length) := by
  simp only [mayL, Bool.and_eq_true, decide_eq_true_eq, Bool.not_eq_true'] at h
  have h0 := List.any_eq_false.1 h.2 x hx
  have : mayI x l.length = true := by simpa using h0
  simp only [mayI, Bool.and_eq_true, Bool.or_eq_true, decide_eq_true_eq, Bool.not_eq_true'] at this
  obtain ⟨⟨h1, h2, h3⟩, h4⟩ := this
  refine ⟨h1, h2.1, h2.2, h3, fun hg => ?_⟩
  rcases h4 with h4 | h4
  · rw [hg] at h4; cases h4
  · exact h4

theorem mayL_len {l : List Instr} (h : mayL l = true) : l.length ≤ 64 := by
  simp only [mayL, Bool.and_eq_true, decide_eq_true_eq] at h; exact h.1

theorem take_getD {l : List Instr} {k : Nat} (hk : k < l.length) : l.take (k + 1) = l.take k ++ [l.getD k default] := by
  rw [List.take_succ, List.getElem?_eq_getElem hk, List.getD_eq_getElem?_getD, List.getElem?_eq_getElem hk]; rfl

theorem tl_lines {g : List UInt8} (hg : Beg g) {l : List Instr} (hm : mayL l = true) (hw : ∀ x ∈ l, x.wf) : ∀ (m k c : Nat) (st : PS), k + m = l.length → Inv g l k st →
    ∃ st', linesP (splitS 10 (tl g l k m)) c st = (0, st') ∧ Inv g l (k + m) st'
  | 0, k, c, st, _, hi => by
    refine ⟨st, ?_, hi⟩
    have : lineP [] (c + 1) st = (true, st) := rfl
    simp only [tl, splitS, linesP, this, if_true]
  | m + 1, k, c, st, hkm, hi => by
    have hk : k < l.length := by omega
    have hll := mayL_len hm
    obtain ⟨x, hx⟩ : ∃ x, l.getD k default = x := ⟨_, rfl⟩
    have hxm : x ∈ l := by rw [← hx]; exact getD_mem hk
    obtain ⟨m1, m2, m3, m4, m5⟩ := may_of hm hxm
    have hxw := hw x hxm
    have hpl : st.prog.length = k := by rw [hi.prog, List.length_map, List.length_take]; omega
    have hins := insT_not hg m1 (g := g)
    have step : ∀ (c : Nat) (st : PS), st.prog = (l.take k).map zn → st.labels = labs g l (k + 1) → (∀ u ∈ st.uses, u.2.2 < k ∧ goes (l.getD u.2.2 default).op = true ∧ u.1 = g ++ digits (l.getD u.2.2 default).n) →
        (∀ i, i < k → goes (l.getD i default).op = true → ∃ u ∈ st.uses, u.2.2 = i) → ∃ st', linesP (splitS 10 (insT g x ++ 10 :: tl g l (k + 1) m)) c st = (0, st') ∧ Inv g l (k + (m + 1)) st' := by
      intro c st p1 p2 p3 p4
      have hpl : st.prog.length = k := by rw [p1, List.length_map, List.length_take]; omega
      rw [splitS_at _ _ hins.1, linesP, insT_line hg m1 m2 m3 m4 hxw.n (fun h => by have := m5 h; omega)]
      simp only [if_true]
      have := tl_lines hg hm hw m (k + 1) (c + 1) { st with prog := st.prog ++ [zn x], uses := if goes x.op then st.uses ++ [(g ++ digits x.n, c + 1, st.prog.length)] else st.uses } (by omega) ⟨?_, p2, ?_, ?_⟩
      · have e : k + 1 + m = k + (m + 1) := by omega
        rwa [e] at this
      · show st.prog ++ [zn x] = _
        rw [take_getD hk, List.map_append, p1, hx]; rfl
      · intro u hu
        simp only at hu
        by_cases hgo : goes x.op = true
        · rw [if_pos hgo] at hu
          rcases List.mem_append.1 hu with hu | hu
          · obtain ⟨a, b⟩ := p3 u hu; exact ⟨by omega, b⟩
          · rw [List.mem_singleton.1 hu, hpl]
            simp only [hx]
            exact ⟨by omega, hgo, trivial⟩
        · rw [if_neg hgo] at hu
          obtain ⟨a, b⟩ := p3 u hu; exact ⟨by omega, b⟩
      · intro i hik hgi
        simp only
        by_cases hik' : i = k
        · subst hik'
          rw [hx] at hgi
          rw [if_pos hgi]
          exact ⟨_, List.mem_append_right _ (List.mem_singleton_self _), hpl⟩
        · obtain ⟨u, hu, e⟩ := p4 i (by omega) hgi
          refine ⟨u, ?_, e⟩
          split
          · exact List.mem_append_left _ hu
          · exact hu
    rw [tl, hx]
    unfold lineG
    by_cases ht : tgt l k = true
    · rw [if_pos ht]
      have e : ((g ++ digits k ++ [58]) ++ 10 :: [] ++ (insT g x ++ 10 :: [])) ++ tl g l (k + 1) m = (g ++ digits k ++ [58]) ++ 10 :: (insT g x ++ 10 :: tl g l (k + 1) m) := by simp
      have hn10 : (10 : UInt8) ∉ g ++ digits k ++ [58] := by
        rw [List.mem_append, List.mem_append, not_or, not_or]
        exact ⟨⟨(clean_not (beg_clean hg)).1, (clean_not (digits_clean k)).1⟩, by decide⟩
      have hno : lookupS (g ++ digits k) st.labels = none := by
        rw [hi.labels]
        unfold labs
        rw [lookup_f (f := fun i => g ++ digits i) (beg_inj g) k, if_neg]
        rw [List.mem_filter, List.mem_range]; omega
      rw [e, splitS_at _ _ hn10, linesP, lab_line hg (by omega) (c + 1) st hno]
      simp only [if_true]
      exact step (c + 1) _ hi.prog (by rw [labs_succ, if_pos ht, ← hi.labels, hpl]) hi.uses hi.all
    · rw [if_neg ht]
      have e : ([] ++ (insT g x ++ 10 :: [])) ++ tl g l (k + 1) m = insT g x ++ 10 :: tl g l (k + 1) m := by simp
      rw [e]
      exact step c st hi.prog (by rw [labs_succ, if_neg ht, ← hi.labels]) hi.uses hi.all

/-- Labels are put in: what becomes of the program. -/
def putN (l : List Instr) (p : List Instr) (j : Nat) : List Instr := p.set j { p.getD j ⟨0, 0, 0, 0, 0⟩ with n := (l.getD j default).n }

theorem resP_ok {L : List (List UInt8 × Nat)} {l : List Instr} : ∀ (us : List (List UInt8 × Nat × Nat)) (p : List Instr), (∀ u ∈ us, lookupS u.1 L = some (l.getD u.2.2 default).n ∧ (l.getD u.2.2 default).n < p.length ∧ (l.getD u.2.2 default).n < 65536) →
    resP L us 0 p = (0, us.foldl (fun p u => putN l p u.2.2) p)
  | [], _, _ => rfl
  | u :: us, p, h => by
    obtain ⟨h1, h2, h3⟩ := h u List.mem_cons_self
    rw [resP, if_pos rfl, h1]
    simp only
    rw [if_neg (by omega), Nat.mod_eq_of_lt h3]
    exact resP_ok us _ (fun v hv => by
      obtain ⟨a, b, c⟩ := h v (List.mem_cons_of_mem _ hv)
      exact ⟨a, by rw [List.length_set]; exact b, c⟩)

theorem putN_len (l p : List Instr) (j : Nat) : (putN l p j).length = p.length := by unfold putN; rw [List.length_set]

/-- A program that is right but for the labels at some places. -/
theorem fold_put {l : List Instr} : ∀ (us : List (List UInt8 × Nat × Nat)) (p : List Instr), p.length = l.length → (∀ u ∈ us, u.2.2 < l.length) →
    (∀ i, i < l.length → { p.getD i default with n := (l.getD i default).n } = l.getD i default ∧ ((p.getD i default).n ≠ (l.getD i default).n → ∃ u ∈ us, u.2.2 = i)) →
    us.foldl (fun p u => putN l p u.2.2) p = l
  | [], p, hl, _, h => by
    apply List.ext_getElem hl
    intro i h1 h2
    obtain ⟨a, b⟩ := h i h2
    rw [List.getD_eq_getElem?_getD, List.getD_eq_getElem?_getD, List.getElem?_eq_getElem h1, List.getElem?_eq_getElem h2] at a b
    simp only [Option.getD_some] at a b
    by_cases he : p[i].n = l[i].n
    · rw [← a, ← he]
    · obtain ⟨u, hu, _⟩ := b he; cases hu
  | u :: us, p, hl, hlt, h => by
    have hu := hlt u List.mem_cons_self
    rw [List.foldl_cons]
    refine fold_put us _ (by rw [putN_len, hl]) (fun v hv => hlt v (List.mem_cons_of_mem _ hv)) fun i hi => ?_
    obtain ⟨a, b⟩ := h i hi
    have hip : i < p.length := by omega
    by_cases he : i = u.2.2
    · subst he
      have e : (putN l p u.2.2).getD u.2.2 default = { p.getD u.2.2 default with n := (l.getD u.2.2 default).n } := by
        unfold putN
        rw [List.getD_eq_getElem?_getD, List.getElem?_set_self (by omega), Option.getD_some]
        congr 1 <;> simp [List.getD_eq_getElem?_getD, List.getElem?_eq_getElem hip]
      rw [e]
      exact ⟨a, fun hne => absurd rfl hne⟩
    · have e : (putN l p u.2.2).getD i default = p.getD i default := by
        unfold putN
        rw [List.getD_eq_getElem?_getD, List.getElem?_set_ne (by omega), List.getD_eq_getElem?_getD]
      rw [e]
      refine ⟨a, fun hne => ?_⟩
      obtain ⟨v, hv, ev⟩ := b hne
      rcases List.mem_cons.1 hv with rfl | hv
      · exact absurd ev.symm he
      · exact ⟨v, hv, ev⟩

/-- **A program's text is read as that program.** -/
theorem parse_print {g : List UInt8} (hg : Beg g) {l : List Instr} (hm : mayL l = true) (hw : ∀ x ∈ l, x.wf) : parseS (printG g l l.length) = (l, 0, 0) := by
  have hll := mayL_len hm
  obtain ⟨st, e1, inv⟩ := tl_lines hg hm hw l.length 0 0 ⟨[], [], []⟩ (by omega) ⟨rfl, rfl, (fun u hu => by cases hu), (fun i hi => by omega)⟩
  rw [Nat.zero_add] at inv
  have hp : st.prog = l.map zn := by rw [inv.prog, List.take_length]
  have hpl : st.prog.length = l.length := by rw [hp, List.length_map]
  have hfold : st.uses.foldl (fun p u => putN l p u.2.2) st.prog = l := by
    refine fold_put st.uses st.prog hpl (fun u hu => (inv.uses u hu).1) fun i hi => ?_
    have e : st.prog.getD i default = zn (l.getD i default) := by
      rw [hp, List.getD_eq_getElem?_getD, List.getElem?_map, List.getD_eq_getElem?_getD, List.getElem?_eq_getElem hi]; rfl
    rw [e]
    unfold zn
    by_cases hgo : goes (l.getD i default).op = true
    · rw [if_pos hgo]
      exact ⟨rfl, fun _ => inv.all i hi hgo⟩
    · rw [if_neg hgo]
      exact ⟨rfl, fun h => absurd rfl h⟩
  have hres : resP st.labels st.uses 0 st.prog = (0, l) := by
    rw [resP_ok (l := l) st.uses st.prog, hfold]
    intro u hu
    obtain ⟨u1, u2, u3⟩ := inv.uses u hu
    obtain ⟨x, hx⟩ : ∃ x, l.getD u.2.2 default = x := ⟨_, rfl⟩
    have hxm : x ∈ l := by rw [← hx]; exact getD_mem u1
    rw [hx] at u2 u3 ⊢
    have hn := (may_of hm hxm).2.2.2.2 u2
    refine ⟨?_, by rw [hpl]; exact hn, by omega⟩
    rw [u3, inv.labels]
    unfold labs
    rw [lookup_f (f := fun i => g ++ digits i) (beg_inj g) x.n, if_pos]
    rw [List.mem_filter, List.mem_range]
    refine ⟨hn, ?_⟩
    unfold tgt
    rw [List.any_eq_true]
    exact ⟨x, hxm, by rw [u2]; simp⟩
  unfold parseS
  rw [printG_tl, e1]
  simp only [hres]
  rw [if_neg (by omega), if_neg (by omega)]

end Go.Proofs.YtoolhdikfdjikaaDoor

/- Plain laws: what is read may be. -/
namespace Go.Proofs.YtoolhdikfdjikaaDoor
open Go Go.Den
set_option maxRecDepth 10000

/-- An instruction that may be, but for its label. -/
structure Half (x : Instr) : Prop where
  op : okOp x.op
  a : x.a < 8
  b : x.b < 8
  c : x.c < 8
  n : x.n < 65536

theorem Half.wf {x : Instr} (h : Half x) : x.wf := by
  have := h.op
  unfold okOp at this
  exact ⟨by omega, by have := h.a; omega, by have := h.b; omega, by have := h.c; omega, h.n⟩

structure Fit (st : PS) : Prop where
  half : ∀ x ∈ st.prog, Half x
  ats : ∀ u ∈ st.uses, u.2.2 < st.prog.length ∧ 0 < u.2.1
  all : ∀ i, i < st.prog.length → goes (st.prog.getD i default).op = true → ∃ u ∈ st.uses, u.2.2 = i

theorem regS_lt {s : List UInt8} {a : Nat} (h : regS s = some a) : a < 8 := by
  unfold regS at h
  split at h
  · cases h; omega
  · cases h

theorem idx_ok {w : List UInt8} (hw : w ≠ []) (h : 0 ≤ idxI (fun y => decide (w = y)) wordsL) : okOp (idxI (fun y => decide (w = y)) wordsL).toNat := by
  unfold idxI at h ⊢
  cases hf : wordsL.findIdx? (fun y => decide (w = y)) with
  | none => rw [hf] at h; exact absurd h (by decide)
  | some i =>
    rw [List.findIdx?_eq_some_iff_getElem] at hf
    obtain ⟨hi, he, _⟩ := hf
    simp only [decide_eq_true_eq] at he
    have key : ∀ j : Fin 39, wordsL[j.1]'j.2 ≠ [] → okOp j.1 := by unfold okOp; decide +kernel
    exact key ⟨i, hi⟩ (by show wordsL[i] ≠ []; rw [← he]; exact hw)

theorem wd_ne : ∀ (l cur : List UInt8), ∀ w ∈ wd l cur, w ≠ []
  | [], cur, w, h => by
    unfold wd at h
    split at h
    · cases h
    · rename_i hc; rw [List.mem_singleton.1 h]; exact hc
  | c :: cs, cur, w, h => by
    unfold wd at h
    split at h
    · split at h
      · exact wd_ne cs [] w h
      · rename_i hc
        rcases List.mem_cons.1 h with rfl | h
        · exact hc
        · exact wd_ne cs [] w h
    · exact wd_ne cs _ w h

theorem getD_app {α : Type} {l : List α} {x d : α} {i : Nat} : (l ++ [x]).getD i d = if i < l.length then l.getD i d else if i = l.length then x else d := by
  rw [List.getD_eq_getElem?_getD]
  by_cases h : i < l.length
  · rw [if_pos h, List.getElem?_append_left h, List.getD_eq_getElem?_getD]
  · rw [if_neg h, List.getElem?_append_right (by omega)]
    by_cases h' : i = l.length
    · rw [if_pos h', h', Nat.sub_self]; rfl
    · rw [if_neg h']
      have : 0 < i - l.length := by omega
      obtain ⟨j, hj⟩ : ∃ j, i - l.length = j + 1 := ⟨i - l.length - 1, by omega⟩
      rw [hj]; rfl

theorem instrS_fit {ws : List (List UInt8)} {line : Nat} {st : PS} (hl : 0 < line) (hw : ∀ w ∈ ws, w ≠ []) (h : Fit st) : Fit (instrS ws line st).2 := by
  unfold instrS
  split
  · exact h
  · rename_i h5
    split
    · rename_i a b c ha hb hc
      have hw0 : ws.getD 0 [] ≠ [] := by
        have h50 : 0 < ws.length := by omega
        rw [List.getD_eq_getElem?_getD, List.getElem?_eq_getElem h50]
        exact hw _ (List.getElem_mem h50)
      split
      · exact h
      · rename_i hop
        have hok := idx_ok hw0 (by omega)
        split
        · rename_i hgo
          refine ⟨fun x hx => ?_, fun u hu => ?_, fun i hi hgi => ?_⟩
          · rcases List.mem_append.1 hx with hx | hx
            · exact h.half x hx
            · rw [List.mem_singleton.1 hx]
              exact ⟨hok, regS_lt ha, regS_lt hb, regS_lt hc, (by decide : 0 < 65536)⟩
          · simp only [List.length_append, List.length_singleton]
            rcases List.mem_append.1 hu with hu | hu
            · have := h.ats u hu; omega
            · rw [List.mem_singleton.1 hu]; simp only; omega
          · simp only [List.length_append, List.length_singleton] at hi
            simp only at hgi ⊢
            by_cases hi' : i < st.prog.length
            · rw [getD_app, if_pos hi'] at hgi
              obtain ⟨u, hu, e⟩ := h.all i hi' hgi
              exact ⟨u, List.mem_append_left _ hu, e⟩
            · exact ⟨_, List.mem_append_right _ (List.mem_singleton_self _), by simp only; omega⟩
        · rename_i hgo
          refine ⟨fun x hx => ?_, fun u hu => ?_, fun i hi hgi => ?_⟩
          · rcases List.mem_append.1 hx with hx | hx
            · exact h.half x hx
            · rw [List.mem_singleton.1 hx]
              exact ⟨hok, regS_lt ha, regS_lt hb, regS_lt hc, numV_lt _⟩
          · simp only [List.length_append, List.length_singleton]
            have := h.ats u hu; omega
          · simp only [List.length_append, List.length_singleton] at hi
            simp only at hgi ⊢
            rw [getD_app] at hgi
            by_cases hi' : i < st.prog.length
            · rw [if_pos hi'] at hgi
              exact h.all i hi' hgi
            · rw [if_neg hi', if_pos (by omega)] at hgi
              exact absurd hgi hgo
    · exact h

theorem lineP_fit {s : List UInt8} {line : Nat} {st : PS} (hl : 0 < line) (h : Fit st) : Fit (lineP s line st).2 := by
  have hL : ∀ L, Fit { st with labels := L } := fun L => ⟨h.half, h.ats, h.all⟩
  unfold lineP
  simp only
  split
  · split
    · exact h
    split
    · exact h
    split
    · exact hL _
    · exact instrS_fit hl (wd_ne _ _) (hL _)
  · split
    · exact h
    · exact instrS_fit hl (wd_ne _ _) h

theorem linesP_fit : ∀ (L : List (List UInt8)) (k : Nat) (st : PS), Fit st → Fit (linesP L k st).2
  | [], _, _, h => h
  | s :: L, k, st, h => by
    have h1 := lineP_fit (s := s) (line := k + 1) (by omega) h
    unfold linesP
    split
    · exact linesP_fit L (k + 1) _ h1
    · exact h1

theorem resP_bad {L : List (List UInt8 × Nat)} : ∀ (us : List (List UInt8 × Nat × Nat)) (bad : Nat) (p q : List Instr), (∀ u ∈ us, 0 < u.2.1) → resP L us bad p = (0, q) → bad = 0
  | [], bad, p, q, _, h => by rw [resP] at h; exact (Prod.mk.injEq _ _ _ _ ▸ h).1
  | u :: us, bad, p, q, hu, h => by
    by_cases hb : bad = 0
    · exact hb
    · rw [resP, if_neg hb] at h
      exact absurd (resP_bad us bad p q (fun v hv => hu v (List.mem_cons_of_mem _ hv)) h) hb

theorem resP_good {L : List (List UInt8 × Nat)} : ∀ (us : List (List UInt8 × Nat × Nat)) (p q : List Instr), (∀ u ∈ us, u.2.2 < p.length ∧ 0 < u.2.1) → (∀ x ∈ p, Half x) → resP L us 0 p = (0, q) →
    q.length = p.length ∧ (∀ x ∈ q, Half x) ∧ (∀ i, i < p.length → (q.getD i default).op = (p.getD i default).op) ∧ (∀ i, i < p.length → (p.getD i default).n < p.length → (q.getD i default).n < p.length) ∧
      (∀ u ∈ us, (q.getD u.2.2 default).n < p.length)
  | [], p, q, _, hh, h => by
    rw [resP] at h
    cases h
    exact ⟨rfl, hh, fun _ _ => rfl, fun _ _ h => h, fun u hu => by cases hu⟩
  | u :: us, p, q, hu, hh, h => by
    have hu' : ∀ v ∈ us, 0 < v.2.1 := fun v hv => (hu v (List.mem_cons_of_mem _ hv)).2
    have hu0 := hu u List.mem_cons_self
    rw [resP, if_pos rfl] at h
    cases hl : lookupS u.1 L with
    | none =>
      rw [hl] at h
      have := resP_bad us _ p q hu' h
      omega
    | some k =>
      rw [hl] at h
      simp only at h
      split at h
      · have := resP_bad us _ p q hu' h
        omega
      · rename_i hk
        obtain ⟨p', hp'⟩ : ∃ p', p.set u.2.2 { p.getD u.2.2 ⟨0, 0, 0, 0, 0⟩ with n := k % 65536 } = p' := ⟨_, rfl⟩
        rw [hp'] at h
        have hlen : p'.length = p.length := by rw [← hp', List.length_set]
        have hself : p'.getD u.2.2 default = { p.getD u.2.2 ⟨0, 0, 0, 0, 0⟩ with n := k % 65536 } := by
          rw [← hp', List.getD_eq_getElem?_getD, List.getElem?_set_self hu0.1]; rfl
        have hne : ∀ i, i ≠ u.2.2 → p'.getD i default = p.getD i default := fun i hi => by
          rw [← hp', List.getD_eq_getElem?_getD, List.getElem?_set_ne (by omega), List.getD_eq_getElem?_getD]
        have hge : ∀ d, p.getD u.2.2 d = p[u.2.2]'hu0.1 := fun d => by
          rw [List.getD_eq_getElem?_getD, List.getElem?_eq_getElem hu0.1]; rfl
        have hkl : k % 65536 < p.length := by
          have := Nat.mod_le k 65536; omega
        have hh' : ∀ x ∈ p', Half x := fun x hx => by
          rw [← hp'] at hx
          rcases List.mem_or_eq_of_mem_set hx with hx | rfl
          · exact hh x hx
          · obtain ⟨h1, h2, h3, h4, h5⟩ := hh _ (List.getElem_mem hu0.1)
            rw [hge]
            exact ⟨h1, h2, h3, h4, Nat.mod_lt _ (by decide)⟩
        obtain ⟨q1, q2, q3, q4, q5⟩ := resP_good us p' q (fun v hv => by rw [hlen]; exact hu v (List.mem_cons_of_mem _ hv)) hh' h
        rw [hlen] at q1 q3 q4 q5
        have hin : (q.getD u.2.2 default).n < p.length := q4 _ hu0.1 (by rw [hself]; exact hkl)
        refine ⟨q1, q2, fun i hi => ?_, fun i hi hn => ?_, fun v hv => ?_⟩
        · rw [q3 i hi]
          by_cases he : i = u.2.2
          · subst he; rw [hself, hge, hge]
          · rw [hne i he]
        · by_cases he : i = u.2.2
          · rw [he]; exact hin
          · exact q4 i hi (by rw [hne i he]; exact hn)
        · rcases List.mem_cons.1 hv with rfl | hv
          · exact hin
          · exact q5 v hv

theorem parse_good (s : List UInt8) (h : (parseS s).2.2 = 0) : mayL (parseS s).1 = true ∧ ∀ x ∈ (parseS s).1, x.wf := by
  have hfit := linesP_fit (splitS 10 s) 0 ⟨[], [], []⟩ ⟨fun x hx => by (cases hx), fun u hu => by (cases hu), fun i hi => by (simp at hi)⟩
  unfold parseS at h ⊢
  generalize linesP (splitS 10 s) 0 ⟨[], [], []⟩ = q at h hfit ⊢
  obtain ⟨b, st⟩ := q
  simp only at h hfit ⊢
  cases hr : resP st.labels st.uses b st.prog with
  | mk b' p =>
    rw [hr] at h
    simp only at h ⊢
    by_cases hb : b' > 0
    · rw [if_pos hb] at h; cases h
    · rw [if_neg hb] at h ⊢
      by_cases hp : p.length > 64
      · rw [if_pos hp] at h; cases h
      · rw [if_neg hp]
        have hb0 : b' = 0 := by omega
        subst hb0
        obtain rfl := resP_bad st.uses b st.prog p (fun u hu => (hfit.ats u hu).2) hr
        obtain ⟨q1, q2, q3, q4, q5⟩ := resP_good st.uses st.prog p hfit.ats hfit.half hr
        refine ⟨?_, fun x hx => (q2 x hx).wf⟩
        simp only [mayL, Bool.and_eq_true, decide_eq_true_eq, Bool.not_eq_true']
        refine ⟨by omega, ?_⟩
        rw [List.any_eq_false]
        intro x hx
        obtain ⟨i, hi, rfl⟩ := List.getElem_of_mem hx
        have hge : p.getD i default = p[i] := by rw [List.getD_eq_getElem?_getD, List.getElem?_eq_getElem hi]; rfl
        obtain ⟨h1, h2, h3, h4, _⟩ := q2 _ hx
        have hgn : goes p[i].op = true → p[i].n < p.length := fun hg => by
          have e := q3 i (by omega)
          rw [hge] at e
          rw [e] at hg
          obtain ⟨u, hu, rfl⟩ := hfit.all i (by omega) hg
          have := q5 u hu
          rw [hge] at this
          omega
        have : mayI p[i] p.length = true := by
          simp only [mayI, Bool.and_eq_true, Bool.or_eq_true, decide_eq_true_eq, Bool.not_eq_true']
          refine ⟨⟨h1, ⟨h2, h3⟩, h4⟩, ?_⟩
          cases hg : goes p[i].op with
          | false => exact .inl rfl
          | true => exact .inr (hgn hg)
        simp [this]

theorem parse_bad (s : List UInt8) (h : (parseS s).2.2 ≠ 0) : (parseS s).1 = [] ∧ ((parseS s).2.2 = 3 ↔ 0 < (parseS s).2.1) := by
  unfold parseS at h ⊢
  simp only at h ⊢
  generalize resP (linesP (splitS 10 s) 0 ⟨[], [], []⟩).2.labels (linesP (splitS 10 s) 0 ⟨[], [], []⟩).2.uses (linesP (splitS 10 s) 0 ⟨[], [], []⟩).1 (linesP (splitS 10 s) 0 ⟨[], [], []⟩).2.prog = q at h ⊢
  by_cases hp : q.1 > 0
  · rw [if_pos hp]
    exact ⟨rfl, fun _ => hp, fun _ => rfl⟩
  · rw [if_neg hp] at h ⊢
    by_cases hq : q.2.length > 64
    · rw [if_pos hq]
      exact ⟨rfl, fun h => absurd h (by decide), fun h => absurd h (by decide)⟩
    · rw [if_neg hq] at h
      exact absurd rfl h

theorem digits_len5 {n : Nat} (h : n < 65536) : (digits n).length ≤ 5 := by
  by_cases h1 : n < 10
  · rw [digits_1 h1]; simp
  by_cases h2 : n < 100
  · rw [digits_2 (by omega) h2]; simp
  by_cases h3 : n < 1000
  · rw [digits_3 (by omega) h3]; simp
  by_cases h4 : n < 10000
  · rw [digits_4 (by omega) h4]; simp
  · rw [digits_5 (by omega) (by omega)]; simp

theorem lineG_len {g : List UInt8} (hg : Beg g) (l : List Instr) {i : Nat} (hi : i < 100) {x : Instr} (hx : Half x) : (lineG g l i x).length ≤ 60 := by
  have h1 := wordS_len x.op
  have h2 := hg.le
  have h3 := digits_len2 hi
  have h4 := digits_len5 hx.n
  have ha : (digits x.a).length = 1 := by rw [digits_1 (by have := hx.a; omega)]; rfl
  have hb : (digits x.b).length = 1 := by rw [digits_1 (by have := hx.b; omega)]; rfl
  have hc : (digits x.c).length = 1 := by rw [digits_1 (by have := hx.c; omega)]; rfl
  unfold lineG insT
  split <;> split <;> simp only [List.length_append, List.length_cons, List.length_nil] <;> omega

theorem half_of {l : List Instr} (hm : mayL l = true) (hw : ∀ x ∈ l, x.wf) {x : Instr} (hx : x ∈ l) : Half x := by
  obtain ⟨h1, h2, h3, h4, _⟩ := may_of hm hx
  exact ⟨h1, h2, h3, h4, (hw x hx).n⟩

theorem printG_len {g : List UInt8} (hg : Beg g) {l : List Instr} (hm : mayL l = true) (hw : ∀ x ∈ l, x.wf) : ∀ k, k ≤ l.length → (printG g l k).length ≤ k * 60
  | 0, _ => Nat.le_refl _
  | k + 1, h => by
    have ih := printG_len hg hm hw k (by omega)
    have := mayL_len hm
    have hl := lineG_len hg l (i := k) (by omega) (half_of hm hw (getD_mem (show k < l.length by omega)))
    rw [printG, List.length_append]; omega

theorem beg_l : Beg [108] := ⟨by decide, by decide, by decide⟩

theorem print_len {l : List Instr} (hm : mayL l = true) (hw : ∀ x ∈ l, x.wf) : (printS l l.length).length ≤ 3840 := by
  have := mayL_len hm
  have h := printG_len beg_l hm hw l.length (Nat.le_refl _)
  rw [printG_S]; omega

theorem parse_back {l : List Instr} (hm : mayL l = true) (hw : ∀ x ∈ l, x.wf) : parseS (printS l l.length) = (l, 0, 0) := by
  rw [printG_S]; exact parse_print beg_l hm hw

end Go.Proofs.YtoolhdikfdjikaaDoor

/- The law's own split into lines. -/
namespace Go.Proofs.YtoolhdikfdjikaaDoor
open Go Go.Den
set_option maxRecDepth 10000

/-- Lines up to a place, and where the next one begins. -/
def spl (s : List UInt8) : Nat → List (List UInt8) × Nat
  | 0 => ([], 0)
  | i + 1 => if i = s.length ∨ (s.getD i 0).toNat = 10 then ((spl s i).1 ++ [sliceOf s ((spl s i).2, i)], i + 1) else spl s i

theorem spl_le (s : List UInt8) : ∀ i, (spl s i).2 ≤ i ∧ (spl s i).1.length ≤ i
  | 0 => ⟨Nat.le_refl _, Nat.le_refl _⟩
  | i + 1 => by
    have := spl_le s i
    unfold spl
    split
    · simp; exact this.2
    · omega

theorem splitS_none {c : UInt8} (a : List UInt8) (h : c ∉ a) : splitS c a = [a] := by
  rw [splitS_cut, cutS_none a h]; rfl

theorem drop_slice {s : List UInt8} {a i : Nat} (h : a ≤ i) (hi : i ≤ s.length) : s.drop a = sliceOf s (a, i) ++ s.drop i := by
  unfold sliceOf
  have : s = s.take i ++ s.drop i := (List.take_append_drop i s).symm
  calc s.drop a = (s.take i ++ s.drop i).drop a := by rw [← this]
    _ = _ := by rw [List.drop_append_of_le_length (by rw [List.length_take]; omega)]

theorem spl_inv (s : List UInt8) : ∀ i, i ≤ s.length → (spl s i).1 ++ splitS 10 (s.drop (spl s i).2) = splitS 10 s ∧ (10 : UInt8) ∉ sliceOf s ((spl s i).2, i)
  | 0, _ => ⟨rfl, by simp [spl, sliceOf]⟩
  | i + 1, h => by
    obtain ⟨h1, h2⟩ := spl_inv s i (by omega)
    have hle := (spl_le s i).1
    have hi : i < s.length := by omega
    unfold spl
    by_cases hc : (s.getD i 0).toNat = 10
    · rw [if_pos (.inr hc)]
      have hc' : s.getD i 0 = 10 := UInt8.toNat_inj.1 hc
      refine ⟨?_, by simp [sliceOf]⟩
      rw [drop_slice hle (by omega : i ≤ s.length), List.drop_eq_getElem_cons hi] at h1
      have e : s[i] = 10 := by rw [← hc', List.getD_eq_getElem?_getD, List.getElem?_eq_getElem hi]; rfl
      rw [e, splitS_at _ _ h2] at h1
      rw [← h1]; simp
    · rw [if_neg (by omega)]
      refine ⟨h1, ?_⟩
      rw [slice_succ hle hi, List.mem_append, List.mem_singleton, not_or]
      refine ⟨h2, fun e => hc ?_⟩
      have hd : (default : UInt8) = 0 := rfl
      rw [hd] at e
      rw [← e]; rfl

theorem spl_all (s : List UInt8) : (spl s (s.length + 1)).1 = splitS 10 s := by
  obtain ⟨h1, h2⟩ := spl_inv s s.length (Nat.le_refl _)
  unfold spl
  rw [if_pos (.inl rfl), ← h1]
  rw [drop_slice (spl_le s s.length).1 (Nat.le_refl _), List.drop_length, List.append_nil, splitS_none _ h2]

theorem split_D (s : List UInt8) (hs : s.length ≤ 1000000) (H : List AObj) (lo : Option Nat) : ∃ r, D X (.fn (.func fn_law23_split) [] []) [S s] ⟨H, lo⟩ = some (.ret r ⟨H, lo⟩) ∧ Rv r 1 (ls (splitS 10 s)) := by
  suffices h : ∃ cr, D X (.fn (.func fn_law23_split) [] []) [S s] ⟨H, lo⟩ = some cr ∧ (fun cr => ∃ r, cr = CRes.ret r ⟨H, lo⟩ ∧ Rv r 1 (ls (splitS 10 s))) cr by
    obtain ⟨cr, h1, r, rfl, h2⟩ := h
    exact ⟨r, h1, h2⟩
  refine D_fn_ex pf_law23_split rfl rfl rfl fun N hN => ?_
  simp (maxSteps := 2000000) (disch := omega) only [condK_dec, F1, ↓Int.cast_ofNat_Int, ↓R1, R2, C1, P1, O1, V1, V2, V3, reduceCtorEq, Nat.reduceEqDiff, Nat.reduceBEq, Nat.reduceAdd, Nat.reduceSub, Nat.reduceMul, Nat.reduceLeDiff, Nat.reduceLT, Int.reduceEq, Int.reduceAdd, Int.reduceSub, Int.reduceMul, Int.reduceLT, Int.reduceLE, Int.reduceNeg, Int.reduceToNat, wrap_i64, wrap_u64, wrap_u8, wrap_u16, wrap_u32, wrap_i32, base_get0, base_get, base_set0, base_set, base_take, take_self, take_app1, pf_law23_split]
  refine wp_loopN (s.length + 1) (fun k e H' => H <+: H' ∧ e 0 = S s ∧ e 4 = .int .i64 (spl s k).2 ∧ e 5 = .int .i64 k ∧ Own N H' (e 3) 1 ty_string (ls (spl s k).1)) 0 (by omega) ?_ ?_
  · simp (maxSteps := 2000000) (disch := omega) only [F1, ↓Int.cast_ofNat_Int, ↓R1, R2, C1, P1, O1, V1, V2, V3, reduceCtorEq, Nat.reduceEqDiff, Nat.reduceBEq, Nat.reduceAdd, Nat.reduceSub, Nat.reduceMul, Nat.reduceLeDiff, Nat.reduceLT, Int.reduceEq, Int.reduceAdd, Int.reduceSub, Int.reduceMul, Int.reduceLT, Int.reduceLE, Int.reduceNeg, Int.reduceToNat, wrap_i64, wrap_u64, wrap_u8, wrap_u16, wrap_u32, wrap_i32, base_get0, base_get, base_set0, base_set, base_take, take_self, take_app1, spl]
    exact ⟨List.prefix_rfl, .nils⟩
  · rintro k hk e H' ⟨hp, e0, e4, e5, e3⟩ n hn
    have hle := spl_le s k
    simp (maxSteps := 2000000) (disch := omega) only [condK_dec, ↓Int.cast_ofNat_Int, ↓R1, R2, C1, P1, O1, V1, V2, V3, reduceCtorEq, Nat.reduceEqDiff, Nat.reduceBEq, Nat.reduceAdd, Nat.reduceSub, Nat.reduceMul, Nat.reduceLeDiff, Nat.reduceLT, Int.reduceEq, Int.reduceAdd, Int.reduceSub, Int.reduceMul, Int.reduceLT, Int.reduceLE, Int.reduceNeg, Int.reduceToNat, wrap_i64, wrap_u64, wrap_u8, wrap_u16, wrap_u32, wrap_i32, base_get0, base_get, base_set0, base_set, base_take, take_self, take_app1, l1_law23_split, e0, e4, e5]
    refine ⟨fun h => ?_, fun h => ?_⟩
    · have hk' : k ≤ s.length := by omega
      obtain ⟨c, hc⟩ : ∃ c, s.getD k 0 = c := ⟨_, rfl⟩
      obtain ⟨b, hb⟩ : ∃ b, decide (k = s.length ∨ (s.getD k 0).toNat = 10) = b := ⟨_, rfl⟩
      have hspk : spl s (k + 1) = if b = true then ((spl s k).1 ++ [sliceOf s ((spl s k).2, k)], k + 1) else spl s k := by
        rw [spl, ← hb]; simp
      refine gK_keep 21 (.bool b) [0, 3, 4, 5] rfl rfl ?_ fun q0 => ?_
      · rw [hc] at hb
        simp (maxSteps := 2000000) (disch := omega) only [R4, F1, ↓Int.cast_ofNat_Int, ↓R1, R2, C1, P1, O1, V1, V2, V3, reduceCtorEq, Nat.reduceEqDiff, Nat.reduceBEq, Nat.reduceAdd, Nat.reduceSub, Nat.reduceMul, Nat.reduceLeDiff, Nat.reduceLT, Int.reduceEq, Int.reduceAdd, Int.reduceSub, Int.reduceMul, Int.reduceLT, Int.reduceLE, Int.reduceNeg, Int.reduceToNat, wrap_i64, wrap_u64, wrap_u8, wrap_u16, wrap_u32, wrap_i32, base_get0, base_get, base_set0, base_set, base_take, take_self, take_app1, e0, e4, e5, hc]
        (repeat' (first | apply And.intro | intro _))
        all_goals first | omega | (refine congrArg AV.bool (Bool.eq_iff_iff.2 ?_); simp [← hb]; try (intros; omega))
      generalize spl s k = q at e4 e3 hspk hle
      cases b
      · simp (maxSteps := 2000000) (disch := omega) only [↓Int.cast_ofNat_Int, ↓R1, R2, C1, P1, O1, V1, V2, V3, reduceCtorEq, Nat.reduceEqDiff, Nat.reduceBEq, Nat.reduceAdd, Nat.reduceSub, Nat.reduceMul, Nat.reduceLeDiff, Nat.reduceLT, Int.reduceEq, Int.reduceAdd, Int.reduceSub, Int.reduceMul, Int.reduceLT, Int.reduceLE, Int.reduceNeg, Int.reduceToNat, wrap_i64, wrap_u64, wrap_u8, wrap_u16, wrap_u32, wrap_i32, base_get0, base_get, base_set0, base_set, base_take, take_self, take_app1, e0, e4, e5, hspk]
        exact ⟨by omega, hp, e3⟩
      · simp (maxSteps := 2000000) (disch := omega) only [↓Int.cast_ofNat_Int, ↓R1, R2, C1, P1, O1, V1, V2, V3, reduceCtorEq, Nat.reduceEqDiff, Nat.reduceBEq, Nat.reduceAdd, Nat.reduceSub, Nat.reduceMul, Nat.reduceLeDiff, Nat.reduceLT, Int.reduceEq, Int.reduceAdd, Int.reduceSub, Int.reduceMul, Int.reduceLT, Int.reduceLE, Int.reduceNeg, Int.reduceToNat, wrap_i64, wrap_u64, wrap_u8, wrap_u16, wrap_u32, wrap_i32, base_get0, base_get, base_set0, base_set, base_take, take_self, take_app1, e0, e4, e5, hspk, hn]
        refine ⟨⟨by omega, by omega⟩, ?_⟩
        refine okP_append e3 hp hN (by decide) (by simp) rfl (by simp [room, ls]; omega) fun v' H'' o1 p1 => ?_
        simp (maxSteps := 2000000) (disch := omega) only [F1, ↓Int.cast_ofNat_Int, ↓R1, R2, C1, P1, O1, V1, V2, V3, reduceCtorEq, Nat.reduceEqDiff, Nat.reduceBEq, Nat.reduceAdd, Nat.reduceSub, Nat.reduceMul, Nat.reduceLeDiff, Nat.reduceLT, Int.reduceEq, Int.reduceAdd, Int.reduceSub, Int.reduceMul, Int.reduceLT, Int.reduceLE, Int.reduceNeg, Int.reduceToNat, wrap_i64, wrap_u64, wrap_u8, wrap_u16, wrap_u32, wrap_i32, base_get0, base_get, base_set0, base_set, base_take, take_self, take_app1, e0, e4, e5, hspk]
        refine ⟨by omega, p1, ?_⟩
        have : ls (q.1 ++ [sliceOf s (q.2, k)]) = ls q.1 ++ [[S (List.drop q.2 (List.take k s))]] := by simp [ls, sliceOf]
        rw [this]; exact o1
    · have hks : k = s.length + 1 := by omega
      subst hks
      rw [spl_all] at e3
      have hr : refsLL (ls (splitS 10 s)) ≤ N := by
        unfold ls
        rw [refsLL_map (fun x => by simp [refsL, AV.refs, S])]; exact Nat.zero_le _
      simp (maxSteps := 2000000) (disch := omega) only [↓Int.cast_ofNat_Int, ↓R1, R2, C1, P1, O1, V1, V2, V3, reduceCtorEq, Nat.reduceEqDiff, Nat.reduceBEq, Nat.reduceAdd, Nat.reduceSub, Nat.reduceMul, Nat.reduceLeDiff, Nat.reduceLT, Int.reduceEq, Int.reduceAdd, Int.reduceSub, Int.reduceMul, Int.reduceLT, Int.reduceLE, Int.reduceNeg, Int.reduceToNat, wrap_i64, wrap_u64, wrap_u8, wrap_u16, wrap_u32, wrap_i32, base_get0, base_get, base_set0, base_set, base_take, take_self, take_app1, e3.finish1 hr, take_pre hN hp]
      exact ⟨_, rfl, e3.frz_rv⟩

end Go.Proofs.YtoolhdikfdjikaaDoor

/- Plain laws: blank lines, remarks and blanks change nothing but numbers of lines. -/
namespace Go.Proofs.YtoolhdikfdjikaaDoor
open Go Go.Den
set_option maxRecDepth 10000

/-- Lines, each with its end. -/
def tr : List (List UInt8) → List UInt8
  | [] => []
  | x :: r => x ++ 10 :: tr r

/-- Lines as a text: the last one has no end. -/
def joinN : List (List UInt8) → List UInt8
  | [] => []
  | [x] => x
  | x :: y :: r => x ++ 10 :: joinN (y :: r)

theorem tr_app : ∀ a b : List (List UInt8), tr (a ++ b) = tr a ++ tr b
  | [], _ => rfl
  | x :: a, b => by simp [tr, tr_app a b]

theorem joinN_snoc (z : List UInt8) : ∀ a : List (List UInt8), joinN (a ++ [z]) = tr a ++ z
  | [] => rfl
  | [x] => by simp [joinN, tr]
  | x :: y :: a => by
    have := joinN_snoc z (y :: a)
    simp only [List.cons_append] at this ⊢
    rw [joinN, this]; simp [tr]

theorem split_join : ∀ a : List (List UInt8), a ≠ [] → (∀ x ∈ a, (10 : UInt8) ∉ x) → splitS 10 (joinN a) = a
  | [], h, _ => absurd rfl h
  | [x], _, h => splitS_none x (h x List.mem_cons_self)
  | x :: y :: a, _, h => by
    rw [joinN, splitS_at _ _ (h x List.mem_cons_self), split_join (y :: a) (by simp) (fun z hz => h z (List.mem_cons_of_mem _ hz))]

theorem split_not : ∀ s : List UInt8, ∀ x ∈ splitS 10 s, (10 : UInt8) ∉ x
  | [], x, h => by
    simp only [splitS, List.mem_singleton] at h
    subst h; simp
  | b :: s, x, h => by
    have ih := split_not s
    unfold splitS at h
    split at h
    · rcases List.mem_cons.1 h with rfl | h
      · simp
      · exact ih x h
    · rename_i hb
      split at h
      · rename_i y ys hy
        rw [hy] at ih
        rcases List.mem_cons.1 h with rfl | h
        · rw [List.mem_cons, not_or]
          exact ⟨fun e => hb e.symm, ih y List.mem_cons_self⟩
        · exact ih x (List.mem_cons_of_mem _ h)
      · rw [List.mem_singleton.1 h, List.mem_singleton]
        exact fun e => hb e.symm

theorem join_split : ∀ s : List UInt8, joinN (splitS 10 s) = s
  | [] => rfl
  | b :: s => by
    have ih := join_split s
    unfold splitS
    split
    · rename_i hb
      cases hs : splitS 10 s with
      | nil => exact absurd hs (splitS_ne 10 s)
      | cons y ys => rw [hs] at ih; rw [joinN, ih, hb]; rfl
    · split
      · rename_i y ys hy
        rw [hy] at ih
        cases ys with
        | nil => simp only [joinN] at ih ⊢; rw [ih]
        | cons z zs => simp only [joinN] at ih ⊢; rw [← ih]; rfl
      · rename_i hy; exact absurd hy (splitS_ne 10 s)

/-- A text's lines' lengths. -/
def tot : List (List UInt8) → Nat
  | [] => 0
  | x :: r => x.length + 1 + tot r

theorem tot_app : ∀ a b : List (List UInt8), tot (a ++ b) = tot a + tot b
  | [], _ => by simp [tot]
  | x :: a, b => by simp [tot, tot_app a b]; omega

theorem tr_len : ∀ a : List (List UInt8), (tr a).length = tot a
  | [] => rfl
  | x :: a => by simp [tr, tot, tr_len a]; omega

theorem join_len : ∀ a : List (List UInt8), (joinN a).length ≤ tot a ∧ tot a ≤ (joinN a).length + 1
  | [] => ⟨Nat.le_refl _, Nat.zero_le _⟩
  | [x] => by simp [joinN, tot]
  | x :: y :: a => by
    have := join_len (y :: a)
    simp only [joinN, tot, List.length_append, List.length_cons] at this ⊢
    omega

/-! A line with blanks around it, or with a remark, is that line. -/

theorem cut_tail (c : UInt8) (r : List UInt8) : ∀ x : List UInt8, (cutS c (x ++ c :: r)).1 = (cutS c x).1
  | [] => by simp [cutS]
  | b :: x => by
    rw [List.cons_append, cutS, cutS]
    split
    · rfl
    · rw [cut_tail c r x]

theorem cut_blank (c : UInt8) (h : c ≠ 32) : ∀ x : List UInt8, (cutS c (x ++ [32])).2.2 = (cutS c x).2.2 ∧
    ((cutS c x).2.2 = true → (cutS c (x ++ [32])).1 = (cutS c x).1 ∧ (cutS c (x ++ [32])).2.1 = (cutS c x).2.1 ++ [32]) ∧ ((cutS c x).2.2 = false → (cutS c (x ++ [32])).1 = (cutS c x).1 ++ [32])
  | [] => by
    have : (32 : UInt8) ≠ c := fun e => h e.symm
    simp [cutS, this]
  | b :: x => by
    obtain ⟨h1, h2, h3⟩ := cut_blank c h x
    rw [List.cons_append, cutS, cutS]
    split
    · simp
    · refine ⟨h1, fun hx => ?_, fun hx => ?_⟩
      · obtain ⟨a, b⟩ := h2 hx; exact ⟨by simp [a], b⟩
      · simp [h3 hx]

theorem cut_front (c b : UInt8) (h : b ≠ c) (x : List UInt8) : cutS c (b :: x) = (b :: (cutS c x).1, (cutS c x).2.1, (cutS c x).2.2) := by
  rw [cutS, if_neg h]

theorem wd_front {b : UInt8} (hb : bl b = true) (x : List UInt8) : wd (b :: x) [] = wd x [] := by
  rw [wd, hb]; simp

theorem wd_back : ∀ x cur : List UInt8, wd (x ++ [32]) cur = wd x cur
  | [], cur => by
    have h : bl 32 = true := rfl
    simp only [List.nil_append, wd, h, if_true]
  | c :: x, cur => by
    rw [List.cons_append, wd, wd]
    rw [wd_back x [], wd_back x (cur ++ [c])]

theorem line_cong {x y : List UInt8} (h0 : (cutS 58 (cutS 59 y).1).2.2 = (cutS 58 (cutS 59 x).1).2.2)
    (h1 : (cutS 58 (cutS 59 x).1).2.2 = true → wd (cutS 58 (cutS 59 y).1).1 [] = wd (cutS 58 (cutS 59 x).1).1 [] ∧ wd (cutS 58 (cutS 59 y).1).2.1 [] = wd (cutS 58 (cutS 59 x).1).2.1 [])
    (h2 : (cutS 58 (cutS 59 x).1).2.2 = false → wd (cutS 59 y).1 [] = wd (cutS 59 x).1 []) (k : Nat) (st : PS) : lineP y k st = lineP x k st := by
  unfold lineP
  rw [h0]
  cases hc : (cutS 58 (cutS 59 x).1).2.2 with
  | true =>
    obtain ⟨a, b⟩ := h1 hc
    simp only [if_true, a, b]
  | false =>
    simp only [Bool.false_eq_true, if_false, h2 hc]

theorem line_remark (x r : List UInt8) (k : Nat) (st : PS) : lineP (x ++ 59 :: r) k st = lineP x k st := by
  have := cut_tail 59 r x
  exact line_cong (by rw [this]) (fun _ => by rw [this]; exact ⟨rfl, rfl⟩) (fun _ => by rw [this]) k st

/-- What comes of blanks around a line up to a remark. -/
theorem line_blanks (x : List UInt8) (k : Nat) (st : PS) : lineP (9 :: 32 :: x ++ [32]) k st = lineP x k st := by
  have b9 : bl 9 = true := rfl
  have b32 : bl 32 = true := rfl
  obtain ⟨z, hz, hw⟩ : ∃ z, (cutS 59 (9 :: 32 :: x ++ [32])).1 = 9 :: 32 :: z ∧ (z = (cutS 59 x).1 ∨ z = (cutS 59 x).1 ++ [32]) := by
    obtain ⟨h1, h2, h3⟩ := cut_blank 59 (by decide) x
    refine ⟨(cutS 59 (x ++ [32])).1, ?_, ?_⟩
    · rw [List.cons_append, List.cons_append, cut_front 59 9 (by decide), cut_front 59 32 (by decide)]
    · cases hc : (cutS 59 x).2.2 with
      | true => exact .inl (h2 hc).1
      | false => exact .inr (h3 hc)
  refine line_cong ?_ ?_ ?_ k st
  · rw [hz, cut_front 58 9 (by decide), cut_front 58 32 (by decide)]
    rcases hw with rfl | rfl
    · rfl
    · exact (cut_blank 58 (by decide) _).1
  · intro hc
    rw [hz, cut_front 58 9 (by decide), cut_front 58 32 (by decide)]
    simp only [wd_front b9, wd_front b32]
    rcases hw with rfl | rfl
    · exact ⟨rfl, rfl⟩
    · obtain ⟨a, b⟩ := (cut_blank 58 (by decide) (cutS 59 x).1).2.1 hc
      rw [a, b, wd_back]
      exact ⟨rfl, rfl⟩
  · intro _
    rw [hz, wd_front b9, wd_front b32]
    rcases hw with rfl | rfl
    · rfl
    · rw [wd_back]

theorem line_nop1 (k : Nat) (st : PS) : lineP [32, 9] k st = (true, st) := rfl

theorem line_nop2 (r : List UInt8) (k : Nat) (st : PS) : lineP (59 :: r) k st = (true, st) := by
  have e : (cutS 59 (59 :: r)).1 = [] := by rw [cutS]; simp
  unfold lineP
  rw [e]
  rfl

/-! Numbers of lines. -/

def sh (k n : Nat) : Nat := if n > k then n + 1 else n
def shU (k : Nat) (u : List UInt8 × Nat × Nat) : List UInt8 × Nat × Nat := (u.1, sh k u.2.1, u.2.2)
def shS (k : Nat) (st : PS) : PS := { st with uses := st.uses.map (shU k) }

theorem instr_sh (k : Nat) (ws : List (List UInt8)) (line : Nat) (st : PS) : instrS ws (sh k line) (shS k st) = ((instrS ws line st).1, shS k (instrS ws line st).2) := by
  unfold instrS
  split
  · rfl
  · split
    · split
      · rfl
      · split
        · simp [shS, shU]
        · rfl
    · rfl

theorem line_sh (k : Nat) (s : List UInt8) (line : Nat) (st : PS) : lineP s (sh k line) (shS k st) = ((lineP s line st).1, shS k (lineP s line st).2) := by
  unfold lineP
  simp only
  have e1 : (shS k st).labels = st.labels := rfl
  have e2 : (shS k st).prog = st.prog := rfl
  rw [e1, e2]
  split
  · split
    · rfl
    split
    · rfl
    split
    · rfl
    · exact instr_sh k (wd (cutS 58 (cutS 59 s).1).2.1 []) line ⟨st.prog, st.labels ++ [((wd (cutS 58 (cutS 59 s).1).1 []).getD 0 [], st.prog.length)], st.uses⟩
  · split
    · rfl
    · exact instr_sh k _ line st

theorem lines_sh (k : Nat) : ∀ (L : List (List UInt8)) (j : Nat) (st : PS), k ≤ j → linesP L (j + 1) (shS k st) = (sh k (linesP L j st).1, shS k (linesP L j st).2)
  | [], j, st, _ => by
    have : sh k 0 = 0 := by unfold sh; rw [if_neg (by omega)]
    simp only [linesP, this]
  | s :: L, j, st, h => by
    have e : sh k (j + 1) = j + 1 + 1 := by unfold sh; rw [if_pos (by omega)]
    have hl := line_sh k s (j + 1) st
    rw [e] at hl
    rw [linesP, hl, linesP]
    cases (lineP s (j + 1) st).1 with
    | true => simp only [if_true]; exact lines_sh k L (j + 1) _ (by omega)
    | false => simp only [Bool.false_eq_true, if_false, e]

theorem shS_id {k : Nat} {st : PS} (h : ∀ u ∈ st.uses, u.2.1 ≤ k) : shS k st = st := by
  unfold shS
  have : st.uses.map (shU k) = st.uses := by
    rw [List.map_congr_left (g := id) (fun u hu => by
      have := h u hu
      simp only [shU, sh, id]
      rw [if_neg (by omega)])]
    simp
  rw [this]

theorem lines_app (L' : List (List UInt8)) : ∀ (L : List (List UInt8)) (j : Nat) (st : PS), linesP (L ++ L') j st = if (linesP L j st).1 = 0 then linesP L' (j + L.length) (linesP L j st).2 else linesP L j st
  | [], j, st => by simp [linesP]
  | s :: L, j, st => by
    rw [List.cons_append, linesP, linesP]
    cases (lineP s (j + 1) st).1 with
    | true =>
      simp only [if_true]
      rw [lines_app L' L (j + 1) _, List.length_cons]
      have : j + 1 + L.length = j + (L.length + 1) := by omega
      rw [this]
    | false => simp

theorem lines_ok : ∀ (L : List (List UInt8)) (j : Nat) (st : PS), st.ok j → (linesP L j st).2.ok (j + L.length) ∧ (linesP L j st).1 ≤ j + L.length
  | [], j, st, h => ⟨h, Nat.zero_le _⟩
  | s :: L, j, st, h => by
    have h1 := lineP_ok (s := s) (line := j + 1) h (by omega)
    unfold linesP
    split
    · have := lines_ok L (j + 1) _ h1
      have e : j + 1 + L.length = j + (s :: L).length := by simp; omega
      rwa [e] at this
    · exact ⟨h1.mono (by rw [List.length_cons]; omega), by rw [List.length_cons]; omega⟩

theorem ok0 : PS.ok ⟨[], [], []⟩ 0 := ⟨Nat.le_refl _, Nat.le_refl _, (fun u hu => by cases hu), (fun u hu => by cases hu)⟩

/-- A line that does nothing is put in. -/
theorem lines_nop {x : List UInt8} (hx : ∀ k st, lineP x k st = (true, st)) (L L' : List (List UInt8)) :
    linesP (L ++ x :: L') 0 ⟨[], [], []⟩ = (sh L.length (linesP (L ++ L') 0 ⟨[], [], []⟩).1, shS L.length (linesP (L ++ L') 0 ⟨[], [], []⟩).2) := by
  rw [lines_app, lines_app]
  obtain ⟨h1, h2⟩ := lines_ok L 0 ⟨[], [], []⟩ ok0
  rw [Nat.zero_add] at *
  have hid : shS L.length (linesP L 0 ⟨[], [], []⟩).2 = (linesP L 0 ⟨[], [], []⟩).2 := shS_id h1.lines
  split
  · rw [linesP, hx]
    simp only [if_true]
    have := lines_sh L.length L' L.length (linesP L 0 ⟨[], [], []⟩).2 (Nat.le_refl _)
    rw [hid] at this
    exact this
  · rw [hid]
    have : sh L.length (linesP L 0 ⟨[], [], []⟩).1 = (linesP L 0 ⟨[], [], []⟩).1 := by unfold sh; rw [if_neg (by omega)]
    rw [this]

theorem sh0 (k n : Nat) : sh k n = 0 ↔ n = 0 := by unfold sh; split <;> omega

theorem resP_sh (k : Nat) (L : List (List UInt8 × Nat)) : ∀ (us : List (List UInt8 × Nat × Nat)) (bad : Nat) (p : List Instr), resP L (us.map (shU k)) (sh k bad) p = (sh k (resP L us bad p).1, (resP L us bad p).2)
  | [], _, _ => rfl
  | u :: us, bad, p => by
    rw [List.map_cons, resP, resP]
    by_cases hb : bad = 0
    · rw [if_pos ((sh0 k bad).2 hb), if_pos hb]
      have e1 : (shU k u).1 = u.1 := rfl
      have e2 : (shU k u).2.1 = sh k u.2.1 := rfl
      have e3 : (shU k u).2.2 = u.2.2 := rfl
      rw [e1, e2, e3]
      split
      · split
        · exact resP_sh k L us _ p
        · have := resP_sh k L us 0 (p.set u.2.2 { p.getD u.2.2 ⟨0, 0, 0, 0, 0⟩ with n := ‹Nat› % 65536 })
          rw [(sh0 k 0).2 rfl] at this
          exact this
      · exact resP_sh k L us _ p
    · rw [if_neg (fun h => hb ((sh0 k bad).1 h)), if_neg hb]
      exact resP_sh k L us bad p

/-- How a text is read, by its lines. -/
def parseL (L : List (List UInt8)) : List Instr × Nat × Nat :=
  let q := linesP L 0 ⟨[], [], []⟩
  let p := resP q.2.labels q.2.uses q.1 q.2.prog
  if p.1 > 0 then ([], p.1, 3) else if p.2.length > 64 then ([], 0, 8) else (p.2, 0, 0)

theorem parseS_L (s : List UInt8) : parseS s = parseL (splitS 10 s) := rfl

theorem parse_nop {x : List UInt8} (hx : ∀ k st, lineP x k st = (true, st)) (L L' : List (List UInt8)) : parseL (L ++ x :: L') = ((parseL (L ++ L')).1, sh L.length (parseL (L ++ L')).2.1, (parseL (L ++ L')).2.2) := by
  unfold parseL
  rw [lines_nop hx]
  simp only
  have e1 : ∀ st, (shS L.length st).labels = st.labels := fun _ => rfl
  have e2 : ∀ st, (shS L.length st).prog = st.prog := fun _ => rfl
  have e3 : ∀ st, (shS L.length st).uses = st.uses.map (shU L.length) := fun _ => rfl
  rw [e1, e2, e3, resP_sh]
  simp only
  generalize resP _ _ _ _ = q
  by_cases h : q.1 > 0
  · have h' : sh L.length q.1 > 0 := by
      have := sh0 L.length q.1; omega
    rw [if_pos h, if_pos h']
  · have h' : ¬ sh L.length q.1 > 0 := by
      have := sh0 L.length q.1; omega
    have h0 : sh L.length 0 = 0 := (sh0 _ 0).2 rfl
    rw [if_neg h, if_neg h']
    split <;> simp only [h0]

theorem lines_cong {x y : List UInt8} (h : ∀ k st, lineP y k st = lineP x k st) (L L' : List (List UInt8)) : parseL (L ++ y :: L') = parseL (L ++ x :: L') := by
  have : linesP (L ++ y :: L') 0 ⟨[], [], []⟩ = linesP (L ++ x :: L') 0 ⟨[], [], []⟩ := by
    rw [lines_app, lines_app, linesP, linesP, h]
  unfold parseL
  rw [this]

/-! The text that the law makes. -/

def preI (rk : List UInt8) (how k i : Nat) : List (List UInt8) := if i = k then (if how = 0 then [[32, 9]] else if how = 1 then [59 :: rk] else []) else []
def xI (rk : List UInt8) (L : List (List UInt8)) (how k i : Nat) : List UInt8 := if i = k then (if how = 2 then 9 :: 32 :: L.getD i [] ++ [32] else if how = 3 then L.getD i [] ++ 59 :: rk else L.getD i []) else L.getD i []

def modL (rk : List UInt8) (L : List (List UInt8)) (how k : Nat) : Nat → List (List UInt8)
  | 0 => []
  | i + 1 => modL rk L how k i ++ preI rk how k i ++ [xI rk L how k i]

theorem take_getL {L : List (List UInt8)} {i : Nat} (h : i < L.length) : L.take (i + 1) = L.take i ++ [L.getD i []] := by
  rw [List.take_succ, List.getElem?_eq_getElem h, List.getD_eq_getElem?_getD, List.getElem?_eq_getElem h]; rfl

theorem modL_lo (rk : List UInt8) (L : List (List UInt8)) (how k : Nat) : ∀ i, i ≤ k → i ≤ L.length → modL rk L how k i = L.take i
  | 0, _, _ => rfl
  | i + 1, h, hl => by
    have e1 : preI rk how k i = [] := by unfold preI; rw [if_neg (by omega)]
    have e2 : xI rk L how k i = L.getD i [] := by unfold xI; rw [if_neg (by omega)]
    rw [modL, modL_lo rk L how k i (by omega) (by omega), e1, e2, take_getL (by omega), List.append_nil]

theorem modL_hi (rk : List UInt8) (L : List (List UInt8)) (how k : Nat) : ∀ m, k + 1 + m ≤ L.length → modL rk L how k (k + 1 + m) = L.take k ++ (preI rk how k k ++ xI rk L how k k :: (L.drop (k + 1)).take m)
  | 0, h => by
    rw [Nat.add_zero, modL, modL_lo rk L how k k (Nat.le_refl _) (by omega)]; simp
  | m + 1, h => by
    have e1 : preI rk how k (k + 1 + m) = [] := by unfold preI; rw [if_neg (by omega)]
    have e2 : xI rk L how k (k + 1 + m) = L.getD (k + 1 + m) [] := by unfold xI; rw [if_neg (by omega)]
    have e3 : k + 1 + (m + 1) = (k + 1 + m) + 1 := by omega
    have e4 : (L.drop (k + 1)).take (m + 1) = (L.drop (k + 1)).take m ++ [L.getD (k + 1 + m) []] := by
      rw [take_getL (by rw [List.length_drop]; omega)]
      congr 1
      rw [List.getD_eq_getElem?_getD, List.getElem?_drop, List.getD_eq_getElem?_getD]
    rw [e3, modL, modL_hi rk L how k m (by omega), e1, e2, e4]; simp

theorem modL_all {rk : List UInt8} {L : List (List UInt8)} {how k : Nat} (hk : k < L.length) : modL rk L how k L.length = L.take k ++ (preI rk how k k ++ xI rk L how k k :: L.drop (k + 1)) := by
  have := modL_hi rk L how k (L.length - (k + 1)) (by omega)
  have e : k + 1 + (L.length - (k + 1)) = L.length := by omega
  rw [e] at this
  have e2 : (L.drop (k + 1)).take (L.length - (k + 1)) = L.drop (k + 1) := List.take_of_length_le (by rw [List.length_drop]; omega)
  rw [this, e2]

/-- The text behind i rounds. -/
def tK (rk : List UInt8) (L : List (List UInt8)) (how k i : Nat) : List UInt8 := if i < L.length then tr (modL rk L how k i) else joinN (modL rk L how k i)

theorem tK_succ (rk : List UInt8) (L : List (List UInt8)) (how k i : Nat) (hi : i < L.length) :
    tK rk L how k (i + 1) = tK rk L how k i ++ tr (preI rk how k i) ++ xI rk L how k i ++ (if i + 1 < L.length then [10] else []) := by
  unfold tK
  rw [if_pos hi, modL]
  split
  · rw [tr_app, tr_app, tr]; simp [tr]
  · rw [joinN_snoc, tr_app]; simp

theorem getL_mem {L : List (List UInt8)} {k : Nat} (hk : k < L.length) : L.getD k [] ∈ L := by
  rw [List.getD_eq_getElem?_getD, List.getElem?_eq_getElem hk]; exact List.getElem_mem hk

theorem modL_not {rk : List UInt8} {L : List (List UInt8)} {how k : Nat} (hr : (10 : UInt8) ∉ rk) (hL : ∀ x ∈ L, (10 : UInt8) ∉ x) (hk : k < L.length) : ∀ x ∈ modL rk L how k L.length, (10 : UInt8) ∉ x := by
  rw [modL_all hk]
  intro x hx
  have h1 := hL _ (getL_mem hk)
  rcases List.mem_append.1 hx with hx | hx
  · exact hL x (List.mem_of_mem_take hx)
  rcases List.mem_append.1 hx with hx | hx
  · unfold preI at hx
    rw [if_pos rfl] at hx
    split at hx
    · rw [List.mem_singleton.1 hx]; decide
    · split at hx
      · rw [List.mem_singleton.1 hx, List.mem_cons, not_or]; exact ⟨by decide, hr⟩
      · cases hx
  rcases List.mem_cons.1 hx with rfl | hx
  · unfold xI
    rw [if_pos rfl]
    split
    · simp only [List.cons_append, List.mem_cons, List.mem_append, List.not_mem_nil, or_false, not_or]
      exact ⟨by decide, by decide, h1, by decide⟩
    · split
      · rw [List.mem_append, List.mem_cons, not_or, not_or]; exact ⟨h1, by decide, hr⟩
      · exact h1
  · exact hL x (List.mem_of_mem_drop hx)

theorem split_at {L : List (List UInt8)} {k : Nat} (hk : k < L.length) : L = L.take k ++ L.getD k [] :: L.drop (k + 1) := by
  have := List.take_append_drop k L
  rw [List.drop_eq_getElem_cons hk] at this
  rw [List.getD_eq_getElem?_getD, List.getElem?_eq_getElem hk]
  exact this.symm

theorem tK_len {rk : List UInt8} {L : List (List UInt8)} {how k : Nat} (hk : k < L.length) (hr : rk.length ≤ 50) : (tK rk L how k L.length).length ≤ tot L + 60 := by
  unfold tK
  rw [if_neg (by omega)]
  have h1 := (join_len (modL rk L how k L.length)).1
  have e : tot L = tot (L.take k) + ((L.getD k []).length + 1 + tot (L.drop (k + 1))) := by
    have h := congrArg tot (split_at hk)
    rw [tot_app] at h
    exact h
  rw [modL_all hk, tot_app, tot_app] at h1
  have h2 : tot (preI rk how k k) + (xI rk L how k k).length ≤ (L.getD k []).length + 55 := by
    unfold preI xI
    rw [if_pos rfl, if_pos rfl]
    split
    · rename_i h; subst h; simp [tot]; omega
    · split
      · rename_i h; subst h; simp [tot]; omega
      · split
        · simp [tot]
        · split
          · simp [tot]; omega
          · simp [tot]
  rw [modL_all hk]
  simp only [tot] at h1
  omega

theorem tK_mono (rk : List UInt8) (L : List (List UInt8)) (how k : Nat) : ∀ m i, i + m ≤ L.length → (tK rk L how k i).length ≤ (tK rk L how k (i + m)).length
  | 0, _, _ => Nat.le_refl _
  | m + 1, i, h => by
    have h1 := tK_mono rk L how k m i (by omega)
    have h2 := tK_succ rk L how k (i + m) (by omega)
    have e : i + (m + 1) = i + m + 1 := by omega
    rw [e, h2]
    simp only [List.length_append]
    omega

/-- **What the law says of its two texts.** -/
theorem parse_loose {rk s : List UInt8} {how k : Nat} (hr : (10 : UInt8) ∉ rk) (hk : k < (splitS 10 s).length) (hh : how < 4) :
    parseS (tK rk (splitS 10 s) how k (splitS 10 s).length) = ((parseS s).1, (parseS s).2.1 + (if how < 2 ∧ (parseS s).2.1 > k then 1 else 0), (parseS s).2.2) := by
  rw [parseS_L, parseS_L s]
  have hL := split_not s
  generalize splitS 10 s = L at hk hL
  have hm := modL_not (how := how) hr hL hk
  unfold tK
  rw [if_neg (by omega), split_join _ (by rw [modL_all hk]; simp) hm, modL_all hk]
  have e0 := split_at hk
  have hlen : (L.take k).length = k := by rw [List.length_take]; omega
  have hpre : preI rk how k k = if how = 0 then [[32, 9]] else if how = 1 then [59 :: rk] else [] := by unfold preI; rw [if_pos rfl]
  have hx : xI rk L how k k = if how = 2 then 9 :: 32 :: L.getD k [] ++ [32] else if how = 3 then L.getD k [] ++ 59 :: rk else L.getD k [] := by unfold xI; rw [if_pos rfl]
  rw [hpre, hx]
  have c : how = 0 ∨ how = 1 ∨ how = 2 ∨ how = 3 := by omega
  rcases c with rfl | rfl | rfl | rfl
  · simp only [if_true, (by decide : ¬ (0 : Nat) = 2), (by decide : ¬ (0 : Nat) = 3), if_false, List.cons_append, List.nil_append]
    rw [parse_nop line_nop1, ← e0, hlen]
    unfold sh
    by_cases h : (parseL L).2.1 > k <;> simp [h]
  · simp only [if_true, (by decide : ¬ (1 : Nat) = 0), (by decide : ¬ (1 : Nat) = 2), (by decide : ¬ (1 : Nat) = 3), if_false, List.cons_append, List.nil_append]
    rw [parse_nop (line_nop2 rk), ← e0, hlen]
    unfold sh
    by_cases h : (parseL L).2.1 > k <;> simp [h]
  · simp only [if_true, (by decide : ¬ (2 : Nat) = 0), (by decide : ¬ (2 : Nat) = 1), if_false, List.nil_append]
    rw [lines_cong (line_blanks (L.getD k [])), ← e0]
    simp
  · simp only [if_true, (by decide : ¬ (3 : Nat) = 0), (by decide : ¬ (3 : Nat) = 1), (by decide : ¬ (3 : Nat) = 2), if_false, List.nil_append]
    rw [lines_cong (line_remark (L.getD k []) rk), ← e0]
    simp

end Go.Proofs.YtoolhdikfdjikaaDoor

/- The law AsmLoose. -/
namespace Go.Proofs.YtoolhdikfdjikaaDoor
open Go Go.Den
set_option maxRecDepth 10000

theorem parse_len (s : List UInt8) : (parseS s).1.length ≤ 64 := by
  by_cases h : (parseS s).2.2 = 0
  · exact mayL_len (parse_good s h).1
  · rw [(parse_bad s h).1]; exact Nat.zero_le _

theorem resP_le {L : List (List UInt8 × Nat)} {B : Nat} : ∀ (us : List (List UInt8 × Nat × Nat)) (bad : Nat) (p : List Instr), bad ≤ B → (∀ u ∈ us, u.2.1 ≤ B) → (resP L us bad p).1 ≤ B
  | [], _, _, h, _ => h
  | u :: us, bad, p, h, hu => by
    have hu' : ∀ v ∈ us, v.2.1 ≤ B := fun v hv => hu v (List.mem_cons_of_mem _ hv)
    have hu0 := hu u List.mem_cons_self
    rw [resP]
    split
    · split
      · split
        · exact resP_le us _ p hu0 hu'
        · exact resP_le us 0 _ (Nat.zero_le _) hu'
      · exact resP_le us _ p hu0 hu'
    · exact resP_le us bad p h hu'

theorem parse_line (s : List UInt8) : (parseS s).2.1 ≤ (splitS 10 s).length := by
  obtain ⟨h1, h2⟩ := lines_ok (splitS 10 s) 0 ⟨[], [], []⟩ ok0
  rw [Nat.zero_add] at h1 h2
  have h3 := resP_le (L := (linesP (splitS 10 s) 0 ⟨[], [], []⟩).2.labels) (linesP (splitS 10 s) 0 ⟨[], [], []⟩).2.uses _ (linesP (splitS 10 s) 0 ⟨[], [], []⟩).2.prog h2 h1.lines
  unfold parseS
  simp only
  split
  · exact h3
  · split <;> exact Nat.zero_le _

theorem AsmLoose_D (s rk : List UInt8) (a how : Nat) (ha : a < 65536) (hh : how < 256) (hs : s.length < 2^63) (hrk : rk.length < 2^63) (H : List AObj) (lo : Option Nat) :
    D X (.fn (.func fn_law23_AsmLoose) [] []) [S s, S rk, .int .u16 a, .int .u8 how] ⟨H, lo⟩ = some (.ret (.bool true) ⟨H, lo⟩) := by
  refine D_fn pf_law23_AsmLoose rfl rfl rfl fun N hN => ?_
  by_cases hb : s.length > 5000 ∨ rk.length > 50
  · by_cases h1 : (s.length : Int) > 5000
    · simp (maxSteps := 2000000) (disch := omega) only [F1, ↓Int.cast_ofNat_Int, ↓R1, R2, C1, P1, O1, V1, V2, V3, reduceCtorEq, Nat.reduceEqDiff, Nat.reduceBEq, Nat.reduceAdd, Nat.reduceSub, Nat.reduceMul, Nat.reduceLeDiff, Nat.reduceLT, Int.reduceEq, Int.reduceAdd, Int.reduceSub, Int.reduceMul, Int.reduceLT, Int.reduceLE, Int.reduceNeg, Int.reduceToNat, wrap_i64, wrap_u64, wrap_u8, wrap_u16, wrap_u32, wrap_i32, base_get0, base_get, base_set0, base_set, base_take, take_self, take_app1, pf_law23_AsmLoose, h1, wakes_D, take_self hN]
    · have h2 : (rk.length : Int) > 50 := by omega
      simp (maxSteps := 2000000) (disch := omega) only [F1, ↓Int.cast_ofNat_Int, ↓R1, R2, C1, P1, O1, V1, V2, V3, reduceCtorEq, Nat.reduceEqDiff, Nat.reduceBEq, Nat.reduceAdd, Nat.reduceSub, Nat.reduceMul, Nat.reduceLeDiff, Nat.reduceLT, Int.reduceEq, Int.reduceAdd, Int.reduceSub, Int.reduceMul, Int.reduceLT, Int.reduceLE, Int.reduceNeg, Int.reduceToNat, wrap_i64, wrap_u64, wrap_u8, wrap_u16, wrap_u32, wrap_i32, base_get0, base_get, base_set0, base_set, base_take, take_self, take_app1, pf_law23_AsmLoose, h1, h2, wakes_D, take_self hN]
  · have h1 : ¬ (s.length : Int) > 5000 := by omega
    have h2 : ¬ (rk.length : Int) > 50 := by omega
    obtain ⟨r, d1, d2⟩ := split_D s (by omega) H none
    have hL := split_not s
    have htot : tot (splitS 10 s) ≤ s.length + 1 := by
      have := (join_len (splitS 10 s)).2; rw [join_split] at this; exact this
    have hne := splitS_ne 10 s
    have hsl := splitS_len 10 s
    have hpn := parse_len s
    have hpk := parse_line s
    have hpl := fun (k : Nat) (hr : (10 : UInt8) ∉ rk) (hk : k < (splitS 10 s).length) (q : Nat) (hq : q < 4) => parse_loose (s := s) (how := q) hr hk hq
    obtain ⟨L, hLs⟩ : ∃ L, splitS 10 s = L := ⟨_, rfl⟩
    rw [hLs] at d2 hL htot hne hsl hpl hpk
    have hlpos : 0 < L.length := List.length_pos_iff.2 hne
    have d2' : Rv r 1 (L.map fun x => [S x]) := d2
    have hrem : Int.tmod (a : Int) (L.length : Int) = ((a % L.length : Nat) : Int) := by
      rw [Int.tmod_eq_emod_of_nonneg (by omega)]; omega
    have hkl : a % L.length < L.length := Nat.mod_lt _ hlpos
    obtain ⟨k, hk⟩ : ∃ k, a % L.length = k := ⟨_, rfl⟩
    rw [hk] at hrem hkl
    have hqr : Int.tmod (how : Int) 4 = ((how % 4 : Nat) : Int) := by
      rw [Int.tmod_eq_emod_of_nonneg (by omega)]; omega
    have hq4 : how % 4 < 4 := Nat.mod_lt _ (by decide)
    obtain ⟨q, hq⟩ : ∃ q, how % 4 = q := ⟨_, rfl⟩
    rw [hq] at hqr hq4
    have hlz : ¬ (L.length : Int) = 0 := by omega
    simp (maxSteps := 2000000) (disch := omega) only [F1, ↓Int.cast_ofNat_Int, ↓R1, R2, C1, P1, O1, V1, V2, V3, reduceCtorEq, Nat.reduceEqDiff, Nat.reduceBEq, Nat.reduceAdd, Nat.reduceSub, Nat.reduceMul, Nat.reduceLeDiff, Nat.reduceLT, Int.reduceEq, Int.reduceAdd, Int.reduceSub, Int.reduceMul, Int.reduceLT, Int.reduceLE, Int.reduceNeg, Int.reduceToNat, wrap_i64, wrap_u64, wrap_u8, wrap_u16, wrap_u32, wrap_i32, base_get0, base_get, base_set0, base_set, base_take, take_self, take_app1, pf_law23_AsmLoose, h1, h2, d1, d2'.lenM, hrem, hlz, take_self hN]
    refine wp_loopN rk.length (fun i e H' => H' = H ∧ e 0 = S s ∧ e 1 = S rk ∧ e 3 = .int .u8 how ∧ e 9 = r ∧ e 10 = .int .i64 k ∧ e 11 = .int .i64 i ∧ ∀ j, j < i → (rk.getD j 0).toNat ≠ 10) 0 (by omega) ?_ ?_
    · simp (maxSteps := 2000000) (disch := omega) only [F1, ↓Int.cast_ofNat_Int, ↓R1, R2, C1, P1, O1, V1, V2, V3, reduceCtorEq, Nat.reduceEqDiff, Nat.reduceBEq, Nat.reduceAdd, Nat.reduceSub, Nat.reduceMul, Nat.reduceLeDiff, Nat.reduceLT, Int.reduceEq, Int.reduceAdd, Int.reduceSub, Int.reduceMul, Int.reduceLT, Int.reduceLE, Int.reduceNeg, Int.reduceToNat, wrap_i64, wrap_u64, wrap_u8, wrap_u16, wrap_u32, wrap_i32, base_get0, base_get, base_set0, base_set, base_take, take_self, take_app1]
      exact fun j hj => absurd hj (Nat.not_lt_zero j)
    · rintro i hi e H' ⟨rfl, e0, e1, e3, e9, e10, e11, hj⟩ n hn
      simp (maxSteps := 2000000) (disch := omega) only [condK_dec, F1, ↓Int.cast_ofNat_Int, ↓R1, R2, C1, P1, O1, V1, V2, V3, reduceCtorEq, Nat.reduceEqDiff, Nat.reduceBEq, Nat.reduceAdd, Nat.reduceSub, Nat.reduceMul, Nat.reduceLeDiff, Nat.reduceLT, Int.reduceEq, Int.reduceAdd, Int.reduceSub, Int.reduceMul, Int.reduceLT, Int.reduceLE, Int.reduceNeg, Int.reduceToNat, wrap_i64, wrap_u64, wrap_u8, wrap_u16, wrap_u32, wrap_i32, base_get0, base_get, base_set0, base_set, base_take, take_self, take_app1, l1_law23_AsmLoose, e0, e1, e3, e9, e10, e11]
      refine ⟨fun h => ?_, fun h => ?_⟩
      · have hi' : i < rk.length := by omega
        obtain ⟨c, hc⟩ : ∃ c, rk.getD i 0 = c := ⟨_, rfl⟩
        rw [hc]
        refine ⟨by omega, fun hc10 => ?_, fun hc10 => ⟨hi', all_succ hj (by rw [hc]; omega)⟩⟩
        simp (maxSteps := 2000000) (disch := omega) only [F1, ↓Int.cast_ofNat_Int, ↓R1, R2, C1, P1, O1, V1, V2, V3, reduceCtorEq, Nat.reduceEqDiff, Nat.reduceBEq, Nat.reduceAdd, Nat.reduceSub, Nat.reduceMul, Nat.reduceLeDiff, Nat.reduceLT, Int.reduceEq, Int.reduceAdd, Int.reduceSub, Int.reduceMul, Int.reduceLT, Int.reduceLE, Int.reduceNeg, Int.reduceToNat, wrap_i64, wrap_u64, wrap_u8, wrap_u16, wrap_u32, wrap_i32, base_get0, base_get, base_set0, base_set, base_take, take_self, take_app1, wakes_D, take_self hn]
      · have hno : (10 : UInt8) ∉ rk := by
          intro hm
          obtain ⟨j, hjl, e⟩ := List.getElem_of_mem hm
          have := hj j (by omega)
          rw [List.getD_eq_getElem?_getD, List.getElem?_eq_getElem hjl, Option.getD_some, e] at this
          exact this rfl
        have hpl := hpl k hno hkl q hq4
        have hbig := tK_len (rk := rk) (how := q) hkl (by omega)
        have hsm : ∀ i, i ≤ L.length → (tK rk L q k i).length ≤ 5061 := fun i hi => by
          have := tK_mono rk L q k (L.length - i) i (by omega)
          have e : i + (L.length - i) = L.length := by omega
          rw [e] at this; omega
        have hmem : ∀ i, i < L.length → (L.getD i []).length ≤ 5000 := fun i hi => by
          have := hsl.1 _ (getL_mem hi); omega
        refine wp_loopN L.length (fun i e H'' => H'' = H' ∧ e 0 = S s ∧ e 1 = S rk ∧ e 3 = .int .u8 how ∧ e 9 = r ∧ e 10 = .int .i64 k ∧ e 12 = S (tK rk L q k i) ∧ e 13 = .int .i64 i) 0 (by omega) ?_ ?_
        · have : tK rk L q k 0 = [] := by unfold tK; rw [if_pos hlpos]; rfl
          simp (maxSteps := 2000000) (disch := omega) only [F1, ↓Int.cast_ofNat_Int, ↓R1, R2, C1, P1, O1, V1, V2, V3, reduceCtorEq, Nat.reduceEqDiff, Nat.reduceBEq, Nat.reduceAdd, Nat.reduceSub, Nat.reduceMul, Nat.reduceLeDiff, Nat.reduceLT, Int.reduceEq, Int.reduceAdd, Int.reduceSub, Int.reduceMul, Int.reduceLT, Int.reduceLE, Int.reduceNeg, Int.reduceToNat, wrap_i64, wrap_u64, wrap_u8, wrap_u16, wrap_u32, wrap_i32, base_get0, base_get, base_set0, base_set, base_take, take_self, take_app1, e0, e1, e3, e9, e10, this]
        rintro i hi e H'' ⟨rfl, e0, e1, e3, e9, e10, e12, e13⟩ n hn
        simp (maxSteps := 2000000) (disch := omega) only [condK_dec, F1, ↓Int.cast_ofNat_Int, ↓R1, R2, C1, P1, O1, V1, V2, V3, reduceCtorEq, Nat.reduceEqDiff, Nat.reduceBEq, Nat.reduceAdd, Nat.reduceSub, Nat.reduceMul, Nat.reduceLeDiff, Nat.reduceLT, Int.reduceEq, Int.reduceAdd, Int.reduceSub, Int.reduceMul, Int.reduceLT, Int.reduceLE, Int.reduceNeg, Int.reduceToNat, wrap_i64, wrap_u64, wrap_u8, wrap_u16, wrap_u32, wrap_i32, base_get0, base_get, base_set0, base_set, base_take, take_self, take_app1, l2_law23_AsmLoose, e0, e1, e3, e9, e10, e12, e13, d2'.lenM]
        refine ⟨fun h => ?_, fun h => ?_⟩
        · have hi' : i < L.length := by omega
          have hsucc := tK_succ rk L q k i hi'
          have hb1 := hsm i (by omega)
          have hb2 := hmem i hi'
          have hdef : (default : List UInt8) = [] := rfl
          obtain ⟨x, hx⟩ : ∃ x, L.getD i [] = x := ⟨_, rfl⟩
          rw [hx] at hb2
          obtain ⟨t, ht⟩ : ∃ t, tK rk L q k i = t := ⟨_, rfl⟩
          rw [ht] at hsucc hb1 e12
          have fin : ∀ y, y = t ++ tr (preI rk q k i) ++ xI rk L q k i ++ (if i + 1 < L.length then [10] else []) → i < L.length ∧ S y = S (tK rk L q k (i + 1)) := fun y hy => ⟨hi', by rw [hsucc, hy]⟩
          by_cases hik : i = k
          · have hik' : (i : Int) = (k : Int) := by omega
            subst hik
            have c : q = 0 ∨ q = 1 ∨ q = 2 ∨ q = 3 := by omega
            by_cases hl : i + 1 < L.length
            · have hl' : (i : Int) < (L.length : Int) - 1 := by omega
              rcases c with rfl | rfl | rfl | rfl
              all_goals
                simp (maxSteps := 2000000) (disch := omega) only [F1, ↓Int.cast_ofNat_Int, ↓R1, R2, C1, P1, O1, V1, V2, V3, reduceCtorEq, Nat.reduceEqDiff, Nat.reduceBEq, Nat.reduceAdd, Nat.reduceSub, Nat.reduceMul, Nat.reduceLeDiff, Nat.reduceLT, Int.reduceEq, Int.reduceAdd, Int.reduceSub, Int.reduceMul, Int.reduceLT, Int.reduceLE, Int.reduceNeg, Int.reduceToNat, wrap_i64, wrap_u64, wrap_u8, wrap_u16, wrap_u32, wrap_i32, base_get0, base_get, base_set0, base_set, base_take, take_self, take_app1, e0, e1, e3, e9, e10, e12, e13, d2'.lenM, d2'.addrM, d2'.loadM, hdef, hx, hik', hqr, hl']
                and_intros
                all_goals first | exact h | exact hi' | (unfold strRoom; (try simp only [List.length_append, List.length_cons, List.length_nil]); omega) | (refine (fin _ ?_).2; simp [preI, xI, tr, hl, ← hx])
            · have hl' : ¬ (i : Int) < (L.length : Int) - 1 := by omega
              rcases c with rfl | rfl | rfl | rfl
              all_goals
                simp (maxSteps := 2000000) (disch := omega) only [F1, ↓Int.cast_ofNat_Int, ↓R1, R2, C1, P1, O1, V1, V2, V3, reduceCtorEq, Nat.reduceEqDiff, Nat.reduceBEq, Nat.reduceAdd, Nat.reduceSub, Nat.reduceMul, Nat.reduceLeDiff, Nat.reduceLT, Int.reduceEq, Int.reduceAdd, Int.reduceSub, Int.reduceMul, Int.reduceLT, Int.reduceLE, Int.reduceNeg, Int.reduceToNat, wrap_i64, wrap_u64, wrap_u8, wrap_u16, wrap_u32, wrap_i32, base_get0, base_get, base_set0, base_set, base_take, take_self, take_app1, e0, e1, e3, e9, e10, e12, e13, d2'.lenM, d2'.addrM, d2'.loadM, hdef, hx, hik', hqr, hl']
                and_intros
                all_goals first | exact h | exact hi' | (unfold strRoom; (try simp only [List.length_append, List.length_cons, List.length_nil]); omega) | (refine (fin _ ?_).2; simp [preI, xI, tr, hl, ← hx])
          · have hik' : ¬ (i : Int) = (k : Int) := by omega
            by_cases hl : i + 1 < L.length
            · have hl' : (i : Int) < (L.length : Int) - 1 := by omega
              simp (maxSteps := 2000000) (disch := omega) only [F1, ↓Int.cast_ofNat_Int, ↓R1, R2, C1, P1, O1, V1, V2, V3, reduceCtorEq, Nat.reduceEqDiff, Nat.reduceBEq, Nat.reduceAdd, Nat.reduceSub, Nat.reduceMul, Nat.reduceLeDiff, Nat.reduceLT, Int.reduceEq, Int.reduceAdd, Int.reduceSub, Int.reduceMul, Int.reduceLT, Int.reduceLE, Int.reduceNeg, Int.reduceToNat, wrap_i64, wrap_u64, wrap_u8, wrap_u16, wrap_u32, wrap_i32, base_get0, base_get, base_set0, base_set, base_take, take_self, take_app1, e0, e1, e3, e9, e10, e12, e13, d2'.lenM, d2'.addrM, d2'.loadM, hdef, hx, hik', hl']
              refine ⟨h, by unfold strRoom; omega, by unfold strRoom; omega, fin _ ?_⟩
              simp [preI, xI, tr, hl, hik, ← hx]
            · have hl' : ¬ (i : Int) < (L.length : Int) - 1 := by omega
              simp (maxSteps := 2000000) (disch := omega) only [F1, ↓Int.cast_ofNat_Int, ↓R1, R2, C1, P1, O1, V1, V2, V3, reduceCtorEq, Nat.reduceEqDiff, Nat.reduceBEq, Nat.reduceAdd, Nat.reduceSub, Nat.reduceMul, Nat.reduceLeDiff, Nat.reduceLT, Int.reduceEq, Int.reduceAdd, Int.reduceSub, Int.reduceMul, Int.reduceLT, Int.reduceLE, Int.reduceNeg, Int.reduceToNat, wrap_i64, wrap_u64, wrap_u8, wrap_u16, wrap_u32, wrap_i32, base_get0, base_get, base_set0, base_set, base_take, take_self, take_app1, e0, e1, e3, e9, e10, e12, e13, d2'.lenM, d2'.addrM, d2'.loadM, hdef, hx, hik', hl']
              refine ⟨h, by unfold strRoom; omega, fin _ ?_⟩
              simp [preI, xI, tr, hl, hik, ← hx]
        · have hil : i = L.length := by omega
          subst hil
          obtain ⟨r1, p1, p2, p3⟩ := Parse_D s (by omega) H'' none
          obtain ⟨r2, o1, o2, o3⟩ := Parse_D (tK rk L q k L.length) (by omega) H'' none
          rw [hpl] at o1 o2
          generalize parseS s = z at p1 p2 o1 o2 hpn hpk
          obtain ⟨m, ln, f⟩ := z
          simp only at p1 p2 o1 o2 hpn hpk
          have hrow := row_D r1 r2 m m p2 o2 (by omega) (by omega) H'' none
          by_cases hq2 : q < 2
          · have hq2' : (q : Int) < 2 := by omega
            by_cases hlk : ln > k
            · have hlk' : (ln : Int) > k := by omega
              rw [if_pos ⟨hq2, hlk⟩] at o1
              simp (maxSteps := 2000000) (disch := omega) only [F1, ↓Int.cast_ofNat_Int, ↓R1, R2, C1, P1, O1, V1, V2, V3, reduceCtorEq, Nat.reduceEqDiff, Nat.reduceBEq, Nat.reduceAdd, Nat.reduceSub, Nat.reduceMul, Nat.reduceLeDiff, Nat.reduceLT, Int.reduceEq, Int.reduceAdd, Int.reduceSub, Int.reduceMul, Int.reduceLT, Int.reduceLE, Int.reduceNeg, Int.reduceToNat, wrap_i64, wrap_u64, wrap_u8, wrap_u16, wrap_u32, wrap_i32, base_get0, base_get, base_set0, base_set, base_take, take_self, take_app1, e0, e1, e3, e9, e10, e12, e13, p1, o1, hqr, hq2', hlk', hrow, Int.add_zero, eq_self, decide_true, wakes_D, take_self hn]
            · have hlk' : ¬ (ln : Int) > k := by omega
              rw [if_neg (fun hc => hlk hc.2), Nat.add_zero] at o1
              simp (maxSteps := 2000000) (disch := omega) only [F1, ↓Int.cast_ofNat_Int, ↓R1, R2, C1, P1, O1, V1, V2, V3, reduceCtorEq, Nat.reduceEqDiff, Nat.reduceBEq, Nat.reduceAdd, Nat.reduceSub, Nat.reduceMul, Nat.reduceLeDiff, Nat.reduceLT, Int.reduceEq, Int.reduceAdd, Int.reduceSub, Int.reduceMul, Int.reduceLT, Int.reduceLE, Int.reduceNeg, Int.reduceToNat, wrap_i64, wrap_u64, wrap_u8, wrap_u16, wrap_u32, wrap_i32, base_get0, base_get, base_set0, base_set, base_take, take_self, take_app1, e0, e1, e3, e9, e10, e12, e13, p1, o1, hqr, hq2', hlk', hrow, Int.add_zero, eq_self, decide_true, wakes_D, take_self hn]
          · have hq2' : ¬ (q : Int) < 2 := by omega
            rw [if_neg (fun hc => hq2 hc.1), Nat.add_zero] at o1
            simp (maxSteps := 2000000) (disch := omega) only [F1, ↓Int.cast_ofNat_Int, ↓R1, R2, C1, P1, O1, V1, V2, V3, reduceCtorEq, Nat.reduceEqDiff, Nat.reduceBEq, Nat.reduceAdd, Nat.reduceSub, Nat.reduceMul, Nat.reduceLeDiff, Nat.reduceLT, Int.reduceEq, Int.reduceAdd, Int.reduceSub, Int.reduceMul, Int.reduceLT, Int.reduceLE, Int.reduceNeg, Int.reduceToNat, wrap_i64, wrap_u64, wrap_u8, wrap_u16, wrap_u32, wrap_i32, base_get0, base_get, base_set0, base_set, base_take, take_self, take_app1, e0, e1, e3, e9, e10, e12, e13, p1, o1, hqr, hq2', hrow, Int.add_zero, eq_self, decide_true, wakes_D, take_self hn]

end Go.Proofs.YtoolhdikfdjikaaDoor

/- THE LAW AsmLoose: the row's statement and the card. -/
namespace Go.Proofs.YtoolhdikfdjikaaDoor
open Go Go.Den Go.RowKit Go.ChangeShapes Go.WideShapes Go.ChangeAt
set_option maxRecDepth 100000

theorem asmLoose_lifted (os : Os) (started : os.Started) (H : Type) (enc : TypeId × Value → H) :
    ReturnsInHanded {} Tryd.checked os 5 .any (fun w args => (Rows.asmLooseSpec.pre enc Tryd.prog Tryd.f5 [] false w args ∧ laidMetH Tryd.prog Rows.asmPrintsRow.laid w) ∧ sizedMet enc Tryd.prog Tryd.f5 (OpenSpec.ofChange Rows.asmLooseSpec) false w args)
      (Rows.asmLooseSpec.post enc Tryd.prog Tryd.f5 false true false false) := by
  refine returnsInHanded_of_change_and (C := Tryd.checked) (X := fun w _ => laidMetH Tryd.prog Rows.asmPrintsRow.laid w) (fun _ _ _ hh h => h.of_heap hh) own started (by kernel_rfl) Tryd.func5
    (ChangeSpec.witness_shaped (enc := enc) (C := Tryd.checked) (os := os) (X := fun w _ => laidMetH Tryd.prog Rows.asmPrintsRow.laid w) false (World.laidAll Tryd.prog os Rows.asmPrintsRow.laid) #[.string ⟨#[]⟩, .string ⟨#[]⟩, .int .u16 0, .int .u8 0] 8 (World.laidAll_os _ _ _)
      (World.shaped_of_ZipB (by kernel_rfl) (by kernel_rfl)) (by kernel_rfl) (by kernel_rfl) (by kernel_rfl)
      (by rw [MakeChecks.laidMetH_plain _ _ _ (by kernel_rfl)]; exact laidMet_laidAll _ (by kernel_rfl) (by kernel_rfl))) ?_
  intro W base args ds gs before hval0 hW _ _ hL _
  have hval : ∀ (j : Nat) t v, Tryd.f5.params[j]? = some t → args[j]? = some v → Value.okWide Tryd.prog W .any base t v := hval0
  have hW' := hW
  obtain ⟨p, q, hA0, hV, rfl, _, _⟩ := hW
  have hA : DataW.TrodAll enc Tryd.prog W 0 (fun _ => true) true Tryd.f5.params.toList args.toList ds p := hA0
  have hlt := hW'.lt
  rw [Tryd.params5] at hA hval
  obtain ⟨v0, v1, v2, v3, d0, d1, d2, d3, p0, p1, p2, p3, rfl, rfl, rfl, h0, h1, h2, h3⟩ := trodAll_four hA
  obtain ⟨rfl, rfl⟩ := trodVars_none hV
  obtain ⟨l0, hx0, hl0⟩ := open_text (hval 0 9 v0 rfl rfl) h0
  obtain ⟨l1, hx1, hl1⟩ := open_text (hval 1 9 v1 rfl rfl) h1
  obtain ⟨k2, rfl, hk2⟩ := open_u16 (hval 2 40 v2 rfl rfl) h2
  obtain ⟨k3, rfl, hk3⟩ := open_u8 (hval 3 5 v3 rfl rfl) h3
  refine (law_calls hL (f := 5) Tryd.func5 (by kernel_rfl) (by kernel_rfl) (args := [S l0, S l1, .int .u16 k2, .int .u8 k3]) ⟨_, _, rfl, hx0, _, _, rfl, hx1, _, _, rfl, rfl, _, _, rfl, rfl, rfl⟩
    (AsmLoose_D l0 l1 k2 k3 hk2 hk3 (by simp only [maxLen] at hl0; omega) (by simp only [maxLen] at hl1; omega) [] none)).mono fun e W' ⟨he, hb⟩ => ?_
  subst he
  exact ⟨_, rfl, _, _, _, [], _, [], hW', trodAll_mk1 (shut_bool Tryd.underlying4 _), below_all (by kernel_rfl) hb (by kernel_rfl) hA (fun y hy => hlt y (List.mem_append_left _ hy)), rfl, hb.frame _, fun h => by cases h⟩

theorem asmLoose_holds : Rows.AsmLooseSaid :=
  OpenClaim.holds_of_wide 5 Tryd.f5 rfl rfl rfl rfl rfl rfl rfl ⟨rfl, rfl, rfl, rfl, rfl⟩ rfl rfl rfl rfl rfl (by kernel_rfl) Tryd.func5 (by kernel_rfl)
    (of_decide_eq_true (by kernel_rfl)) (by unfold Func.isWrapper; first | (rw [if_pos (by decide +kernel)]; kernel_rfl) | (rw [if_neg (by decide +kernel)]; exact ⟨rfl, rfl⟩))
    (fun os started H enc _ => asmLoose_lifted os started H enc)

theorem asmLoose_card : Rows.AsmLooseCardSaid :=
  Claim7.holds_tied_plain_at .later [] [.data, .data, .data, .data, .sentinel, .sentinel, .widerDeep, .pinned] true (true, "b379dfead7e90a075b2b282c5a6b53afaefb664c95e336b969e95bced20790b8") true asmLoose_holds (fun _ h => by cases h) (by kernel_rfl) (fun _ h => by cases h) asmLoose_row_tie rfl ⟨rfl, rfl⟩ (by kernel_rfl) rfl
    (fun f fn hf hfn => by
      obtain rfl : f = 5 := Option.some.inj ((show Tryd.prog.funcNamed "bailiwick/bailiwicklaw23.AsmLoose" = some 5 by kernel_rfl).symm.trans hf) |>.symm
      obtain rfl : fn = Tryd.f5 := (Option.some.inj (Tryd.func5.symm.trans hfn)).symm
      exact ⟨by kernel_rfl, fun j t ht => by
        rw [Tryd.params5] at ht
        have hm : t ∈ [9, 9, 40, 5] := by simpa using Array.mem_of_getElem? ht
        have hall : ([9, 9, 40, 5].all fun u => !Tryd.prog.wantsStandIn u) = true := by kernel_rfl
        exact (show Tryd.prog.wantsStandIn t = false by simpa using List.all_eq_true.1 hall t hm)⟩)
    (by kernel_rfl)
#print axioms asmLoose_card

end Go.Proofs.YtoolhdikfdjikaaDoor
