/- Den, fifth part: rules by which contracts of functions are proved by rewriting (no conditions). -/
import Derived.Test.YthbgjjdbcalhcaaGreatDoorDenC
set_option linter.unusedVariables false
set_option linter.unusedSimpArgs false
set_option linter.unusedSectionVars false
set_option linter.deprecated false

/- Den: rules on values and states, as bundles for rewriting. -/
namespace Go.Den
open Go

section
variable {X : Ctx} {f : FuncId} {rd : Bool} {σ : AS} {Q : Post} {e : Env} {ms : List Nat} {K Kp : AV → AS → Prop} {k : IntKind} {a b c : Int} {l m : List UInt8} {n : Nat} {lo : Option Nat} {H L : List AObj} {R : CRes → Prop}

/-! Integers. -/
theorem bin_add : binA .add (.int k a) (.int k b) = some (.int k (k.wrap (a + b))) := by simp [binA, intA]
theorem bin_sub : binA .sub (.int k a) (.int k b) = some (.int k (k.wrap (a - b))) := by simp [binA, intA]
theorem bin_mul : binA .mul (.int k a) (.int k b) = some (.int k (k.wrap (a * b))) := by simp [binA, intA]
theorem bin_quo : binA .quo (.int k a) (.int k b) = if b ≠ 0 then some (.int k (k.wrap (a.tdiv b))) else none := by
  by_cases h : b = 0 <;> simp [binA, intA, h]
theorem bin_rem : binA .rem (.int k a) (.int k b) = if b ≠ 0 then some (.int k (a.tmod b)) else none := by
  by_cases h : b = 0 <;> simp [binA, intA, h]
theorem bin_lss : binA .lss (.int k a) (.int k b) = some (.bool (decide (a < b))) := by simp [binA, intA]
theorem bin_leq : binA .leq (.int k a) (.int k b) = some (.bool (decide (a ≤ b))) := by simp [binA, intA]
theorem bin_gtr : binA .gtr (.int k a) (.int k b) = some (.bool (decide (b < a))) := by simp [binA, intA]
theorem bin_geq : binA .geq (.int k a) (.int k b) = some (.bool (decide (b ≤ a))) := by simp [binA, intA]
theorem bin_and : binA .and (.int k a) (.int k b) = some (.int k (k.wrap (BitVec.ofInt k.bits a &&& BitVec.ofInt k.bits b).toNat)) := by simp [binA, intA, bitsA]
theorem bin_or : binA .or (.int k a) (.int k b) = some (.int k (k.wrap (BitVec.ofInt k.bits a ||| BitVec.ofInt k.bits b).toNat)) := by simp [binA, intA, bitsA]
theorem bin_xor : binA .xor (.int k a) (.int k b) = some (.int k (k.wrap (BitVec.ofInt k.bits a ^^^ BitVec.ofInt k.bits b).toNat)) := by simp [binA, intA, bitsA]
theorem bin_andNot : binA .andNot (.int k a) (.int k b) = some (.int k (k.wrap (BitVec.ofInt k.bits a &&& ~~~ (BitVec.ofInt k.bits b)).toNat)) := by simp [binA, intA, bitsA]
theorem shf_shl {k' : IntKind} : shfA .shl (.int k a) (.int k' b) = if 0 ≤ b then some (.int k (k.wrap (a * 2 ^ (min b.toNat k.bits)))) else none := by
  by_cases h : 0 ≤ b
  · have : ¬ b < 0 := by omega
    simp [shfA, shiftA, h, this]
  · have : b < 0 := by omega
    simp [shfA, shiftA, h, this]
theorem shf_shr {k' : IntKind} : shfA .shr (.int k a) (.int k' b) = if 0 ≤ b then some (.int k (a.fdiv (2 ^ (min b.toNat k.bits)))) else none := by
  by_cases h : 0 ≤ b
  · have : ¬ b < 0 := by omega
    simp [shfA, shiftA, h, this]
  · have : b < 0 := by omega
    simp [shfA, shiftA, h, this]
theorem eq_int : eqA .int (.int k a) (.int k b) = some (decide (a = b)) := by
  simp only [eqA, eqP, if_true]; rw [Bool.eq_iff_iff.2 (show (a == b) = true ↔ decide (a = b) = true by simp)]
theorem eq_bool {x y : Bool} : eqA .bool (.bool x) (.bool y) = some (x == y) := rfl
theorem un_not {x : Bool} : unA .not (.bool x) = some (.bool !x) := rfl
theorem un_neg : unA .neg (.int k a) = some (.int k (k.wrap (0 - a))) := rfl

/-! Strings. -/
theorem eq_str : eqA .str (S l) (S m) = some (decide (l = m)) := by
  simp only [eqA, eqP, S, ByteArray.toList_mk]; rw [Bool.eq_iff_iff.2 (show (l == m) = true ↔ decide (l = m) = true by simp)]
theorem S_add : binA .add (S l) (S m) = if l.length + m.length ≤ strRoom then some (S (l ++ m)) else none := binA_S
theorem len_S : lenA σ .str (S l) = some (.int .i64 l.length) := by simp [lenA, S, size_mk]
theorem idx_S : idxsA (S l) (.int k a) = if 0 ≤ a ∧ a < l.length then some (.int .u8 (l.getD a.toNat 0).toNat) else none := by
  simp only [idxsA, intOf?, S]
  by_cases h : 0 ≤ a
  · by_cases h' : a < l.length
    · have : a.toNat < l.length := by omega
      simp [h, h', this]
    · have : ¬ a.toNat < l.length := by omega
      simp [h, h', this]
  · simp [h]
theorem extract_S (i j : Nat) : (⟨l.toArray⟩ : ByteArray).extract i j = ⟨((l.take j).drop i).toArray⟩ := by
  apply ByteArray.ext
  simp [ByteArray.data_extract, List.drop_take]
theorem sl_S : slstrA (S l) (some (.int k a)) (some (.int k b)) = if 0 ≤ a ∧ a ≤ b ∧ b ≤ l.length then some (S ((l.take b.toNat).drop a.toNat)) else none := by
  simp only [slstrA, S, boundsA, upTo, size_mk]
  by_cases h : 0 ≤ b ∧ b ≤ l.length
  · rw [if_pos h]
    by_cases h' : 0 ≤ a ∧ a ≤ b
    · have e1 : 0 ≤ a ∧ a ≤ (b.toNat : Int) := by omega
      have e2 : 0 ≤ a ∧ a ≤ b ∧ b ≤ l.length := by omega
      simp only [if_pos e1, if_pos e2, extract_S]
    · have e1 : ¬ (0 ≤ a ∧ a ≤ (b.toNat : Int)) := by omega
      have e2 : ¬ (0 ≤ a ∧ a ≤ b ∧ b ≤ l.length) := by omega
      simp only [if_neg e1, if_neg e2]
  · have e2 : ¬ (0 ≤ a ∧ a ≤ b ∧ b ≤ l.length) := by omega
    rw [if_neg h, if_neg e2]
theorem sl_S0 : slstrA (S l) none (some (.int k b)) = if 0 ≤ b ∧ b ≤ l.length then some (S (l.take b.toNat)) else none := by
  simp only [slstrA, S, boundsA, upTo, size_mk]
  by_cases h : 0 ≤ b ∧ b ≤ l.length
  · simp only [if_pos h, extract_S, List.drop_zero]
  · simp only [if_neg h]
theorem sl_S1 : slstrA (S l) (some (.int k a)) none = if 0 ≤ a ∧ a ≤ l.length then some (S (l.drop a.toNat)) else none := by
  simp only [slstrA, S, boundsA, upTo, size_mk]
  by_cases h : 0 ≤ a ∧ a ≤ l.length
  · simp only [if_pos h, extract_S]
    rw [List.take_of_length_le (Nat.le_refl _)]
  · simp only [if_neg h]
theorem sl_S2 : slstrA (S l) none none = some (S l) := by
  simp only [slstrA, S, boundsA, upTo, size_mk, extract_S, List.drop_zero]
  rw [List.take_of_length_le (Nat.le_refl _)]
theorem isTup_S : (S l).isTup = false := rfl
theorem cells_S : (S l).cells = [S l] := rfl
theorem refs_S : (S l).refs = 0 := rfl

/-! Ends. -/
theorem retK_one {t : Nat} : retK X n lo [.t t] R .ret ⟨e, []⟩ σ = R (.ret (finish n lo (e t) σ).1 (finish n lo (e t) σ).2) := by
  simp [retK, killMarks, resultsA_one]
theorem retK_two {t u : Nat} : retK X n lo [.t t, .t u] R .ret ⟨e, []⟩ σ = R (.ret (finish n lo (.tup [e t, e u]) σ).1 (finish n lo (.tup [e t, e u]) σ).2) := by
  simp [retK, killMarks, resultsA_two]
theorem retK_three {t u v : Nat} : retK X n lo [.t t, .t u, .t v] R .ret ⟨e, []⟩ σ = R (.ret (finish n lo (.tup [e t, e u, e v]) σ).1 (finish n lo (.tup [e t, e u, e v]) σ).2) := by
  simp [retK, killMarks, resultsA_three]
theorem retK_none : retK X n lo [] R .ret ⟨e, []⟩ σ = R (.ret (finish n lo (.tup []) σ).1 (finish n lo (.tup []) σ).2) := by
  simp [retK, killMarks, resultsA, resultsL]
theorem retK_none' : retK X n lo [] R .normal ⟨e, []⟩ σ = R (.ret (finish n lo (.tup []) σ).1 (finish n lo (.tup []) σ).2) := by
  simp [retK, killMarks, resultsA, resultsL]

theorem finish_0 {v : AV} : finish n lo v ⟨H, none⟩ = if v.refs ≤ n then (v, ⟨H.take n, lo⟩) else match freeze ⟨H, none⟩ n 12 v with | some v' => (v', ⟨H.take n, lo⟩) | none => (v, ⟨H, joinLo lo none⟩) := by
  by_cases h : v.refs ≤ n
  · rw [if_pos h, finish_low rfl h]
  · rw [if_neg h]; rfl
theorem finish_1 {v : AV} {j : Nat} : finish n lo v ⟨H, some j⟩ = if n ≤ j then (if v.refs ≤ n then (v, ⟨H.take n, lo⟩) else match freeze ⟨H, some j⟩ n 12 v with | some v' => (v', ⟨H.take n, lo⟩) | none => (v, ⟨H, joinLo lo (some j)⟩)) else (v, ⟨H, joinLo lo (some j)⟩) := by
  by_cases hj : n ≤ j
  · rw [if_pos hj]
    by_cases h : v.refs ≤ n
    · rw [if_pos h, finish_low (by simpa using hj) h]
    · rw [if_neg h]; simp only [finish, decide_eq_true_eq, if_pos hj]; rfl
  · rw [if_neg hj]; simp only [finish, decide_eq_true_eq, if_neg hj]
theorem take_self (h : H.length = n) : H.take n = H := by subst h; simp

/-! Boxes. -/
theorem load_ptr {agg : Bool} {m id off : Nat} {lo : Option Nat} : loadA X ⟨H, lo⟩ agg m (.ptr id off) = match H[id]? with
    | some (.box cs _) => part agg m cs off
    | _ => none := rfl
theorem load_eptr {agg : Bool} {m off : Nat} {cs : List AV} : loadA X σ agg m (.eptr cs off) = part agg m cs off := rfl
theorem store_ptr {m id off : Nat} {v : AV} {lo : Option Nat} : storeA ⟨H, lo⟩ m (.ptr id off) v = match H[id]? with
    | some (.box cs tg) => if v.isTup = false ∧ v.cells.length = m ∧ off + m ≤ cs.length then some (AS.set ⟨H, lo⟩ id (.box (splice cs off v.cells) tg) v.refs) else none
    | _ => none := rfl
theorem part_1 {m : Nat} {cs : List AV} {off : Nat} : part false m cs off = cs[off]? := rfl
theorem part_n {m : Nat} {cs : List AV} {off : Nat} : part true m cs off = if off + m ≤ cs.length then some (.agg ((cs.drop off).take m)) else none := rfl
theorem nilck_ptr {id off : Nat} : nilckA (.ptr id off) = some (.ptr id off) := rfl
theorem nilck_rptr {id ver i off : Nat} : nilckA (.rptr id ver i off) = some (.rptr id ver i off) := rfl
theorem nilck_eptr {cs : List AV} {off : Nat} : nilckA (.eptr cs off) = some (.eptr cs off) := rfl
theorem faddr_ptr {id off m : Nat} : faddrA X m (.ptr id off) = some (.ptr id (off + m)) := rfl
theorem faddr_rptr {id ver i off m : Nat} : faddrA X m (.rptr id ver i off) = some (.rptr id ver i (off + m)) := rfl
theorem faddr_eptr {cs : List AV} {off m : Nat} : faddrA X m (.eptr cs off) = some (.eptr cs (off + m)) := rfl
theorem box_int {tg : Option TypeId} : boxA σ (.int k a) tg = some (.ptr σ.heap.length 0, σ.push (.box [.int k a] tg)) := rfl
theorem box_bool {tg : Option TypeId} {b : Bool} : boxA σ (.bool b) tg = some (.ptr σ.heap.length 0, σ.push (.box [.bool b] tg)) := rfl
theorem box_S {tg : Option TypeId} : boxA σ (S l) tg = some (.ptr σ.heap.length 0, σ.push (.box [S l] tg)) := rfl
theorem box_agg {tg : Option TypeId} {cs : List AV} : boxA σ (.agg cs) tg = some (.ptr σ.heap.length 0, σ.push (.box cs tg)) := rfl
theorem splice_0 {cs vs : List AV} : splice cs 0 vs = vs ++ cs.drop vs.length := by simp [splice]
theorem splice_s {cs vs : List AV} {c : AV} {off : Nat} : splice (c :: cs) (off + 1) vs = c :: splice cs off vs := by
  simp [splice, Nat.add_right_comm]
theorem isTup_int {k : IntKind} {n : Int} : AV.isTup (.int k n) = false := rfl
theorem cells_int {k : IntKind} {n : Int} : AV.cells (.int k n) = [.int k n] := rfl
theorem isTup_bool {b : Bool} : AV.isTup (.bool b) = false := rfl
theorem cells_bool {b : Bool} : AV.cells (.bool b) = [.bool b] := rfl
theorem isTup_ptr {i o : Nat} : AV.isTup (.ptr i o) = false := rfl
theorem cells_ptr {i o : Nat} : AV.cells (.ptr i o) = [.ptr i o] := rfl
theorem isTup_rptr {i v j o : Nat} : AV.isTup (.rptr i v j o) = false := rfl
theorem cells_rptr {i v j o : Nat} : AV.cells (.rptr i v j o) = [.rptr i v j o] := rfl
theorem isTup_eptr {cs : List AV} {o : Nat} : AV.isTup (.eptr cs o) = false := rfl
theorem cells_eptr {cs : List AV} {o : Nat} : AV.cells (.eptr cs o) = [.eptr cs o] := rfl
theorem isTup_nilp  : AV.isTup (.nilp) = false := rfl
theorem cells_nilp  : AV.cells (.nilp) = [.nilp] := rfl
theorem isTup_nils  : AV.isTup (.nils) = false := rfl
theorem cells_nils  : AV.cells (.nils) = [.nils] := rfl
theorem isTup_sl {els : List (List AV)} {c : Bool} : AV.isTup (.sl els c) = false := rfl
theorem cells_sl {els : List (List AV)} {c : Bool} : AV.cells (.sl els c) = [.sl els c] := rfl
theorem isTup_ref {i v z o l : Nat} {c : Bool} : AV.isTup (.ref i v z o l c) = false := rfl
theorem cells_ref {i v z o l : Nat} {c : Bool} : AV.cells (.ref i v z o l c) = [.ref i v z o l c] := rfl
theorem isTup_aref {i z o l : Nat} : AV.isTup (.aref i z o l) = false := rfl
theorem cells_aref {i z o l : Nat} : AV.cells (.aref i z o l) = [.aref i z o l] := rfl
theorem isTup_nilm  : AV.isTup (.nilm) = false := rfl
theorem cells_nilm  : AV.cells (.nilm) = [.nilm] := rfl
theorem isTup_mp {i : Nat} : AV.isTup (.mp i) = false := rfl
theorem cells_mp {i : Nat} : AV.cells (.mp i) = [.mp i] := rfl
theorem isTup_fn {f : Fn} {a b : List AV} : AV.isTup (.fn f a b) = false := rfl
theorem cells_fn {f : Fn} {a b : List AV} : AV.cells (.fn f a b) = [.fn f a b] := rfl
theorem isTup_nilf  : AV.isTup (.nilf) = false := rfl
theorem cells_nilf  : AV.cells (.nilf) = [.nilf] := rfl
theorem isTup_ifc {t : TypeId} {v : AV} : AV.isTup (.ifc t v) = false := rfl
theorem cells_ifc {t : TypeId} {v : AV} : AV.cells (.ifc t v) = [.ifc t v] := rfl
theorem isTup_nili  : AV.isTup (.nili) = false := rfl
theorem cells_nili  : AV.cells (.nili) = [.nili] := rfl
theorem isTup_glob {g : Nat} : AV.isTup (.glob g) = false := rfl
theorem cells_glob {g : Nat} : AV.cells (.glob g) = [.glob g] := rfl
theorem isTup_agg {cs : List AV} : AV.isTup (.agg cs) = false := rfl
theorem cells_agg {cs : List AV} : AV.cells (.agg cs) = cs := rfl
theorem refs_int {k : IntKind} {n : Int} : AV.refs (.int k n) = 0 := by simp [AV.refs]
theorem refs_bool {b : Bool} : AV.refs (.bool b) = 0 := by simp [AV.refs]
theorem refs_ptr {i o : Nat} : AV.refs (.ptr i o) = i + 1 := by simp [AV.refs]
theorem refs_rptr {i v j o : Nat} : AV.refs (.rptr i v j o) = i + 1 := by simp [AV.refs]
theorem refs_nilp  : AV.refs (.nilp) = 0 := by simp [AV.refs]
theorem refs_nils  : AV.refs (.nils) = 0 := by simp [AV.refs]
theorem refs_ref {i v z o l : Nat} {c : Bool} : AV.refs (.ref i v z o l c) = i + 1 := by simp [AV.refs]
theorem refs_aref {i z o l : Nat} : AV.refs (.aref i z o l) = i + 1 := by simp [AV.refs]
theorem refs_nilm  : AV.refs (.nilm) = 0 := by simp [AV.refs]
theorem refs_mp {i : Nat} : AV.refs (.mp i) = i + 1 := by simp [AV.refs]
theorem refs_nilf  : AV.refs (.nilf) = 0 := by simp [AV.refs]
theorem refs_nili  : AV.refs (.nili) = 0 := by simp [AV.refs]
theorem refs_glob {g : Nat} : AV.refs (.glob g) = 0 := by simp [AV.refs]
theorem refs_fn {f : Nat} {a b : List AV} : AV.refs (.fn (.func f) a b) = max (refsL a) (refsL b) := by simp [AV.refs]
theorem refs_ifc {t : TypeId} {v : AV} : AV.refs (.ifc t v) = v.refs := by simp [AV.refs]
theorem refs_agg {cs : List AV} : AV.refs (.agg cs) = refsL cs := by simp [AV.refs]
theorem refs_tup {cs : List AV} : AV.refs (.tup cs) = refsL cs := by simp [AV.refs]
theorem refs_sl {els : List (List AV)} {c : Bool} : AV.refs (.sl els c) = refsLL els := by simp [AV.refs]
theorem refs_eptr {cs : List AV} {o : Nat} : AV.refs (.eptr cs o) = refsL cs := by simp [AV.refs]
theorem refsL_nil : refsL [] = 0 := by simp [refsL]
theorem refsL_cons {a : AV} {as : List AV} : refsL (a :: as) = max a.refs (refsL as) := by simp [refsL]

theorem envOf_0 {a : AV} {as : List AV} : envOf (a :: as) 0 = a := rfl
theorem envOf_s {a : AV} {as : List AV} {n : Nat} : envOf (a :: as) (n + 1) = envOf as n := rfl
theorem envOf_nil {n : Nat} : envOf [] n = .undef := rfl
theorem not_not_t : (!true) = false := rfl
theorem not_not_f : (!false) = true := rfl
end

/-! Slices that are read. -/
structure Rd (σ : AS) (v : AV) (sz : Nat) (els : List (List AV)) : Prop where
  kind : match v with | .nils | .sl .. | .ref .. => True | _ => False
  eq : elems σ sz v = some els
  sizes : ∀ el ∈ els, el.length = sz

def elA (v : AV) (j off : Nat) : AV :=
  match v with
  | .sl els _ => .eptr (els.getD j []) off
  | .ref id ver _ o _ _ => .rptr id ver (o + j) off
  | _ => .junk

section
variable {X : Ctx} {σ : AS} {v : AV} {sz : Nat} {els : List (List AV)} {k : IntKind} {a : Int}

theorem Rd.len (h : Rd σ v sz els) : lenA σ .sl v = some (.int .i64 els.length) := by
  obtain ⟨h1, h2, h3⟩ := h
  cases v <;> simp only [] at h1
  · simp only [elems] at h2; cases h2; rfl
  · simp only [elems] at h2; split at h2 <;> cases h2; rfl
  · simp only [elems] at h2
    split at h2
    · split at h2
      · rename_i hc; cases h2; simp only [lenA]; congr 3; rw [List.length_take, List.length_drop]; omega
      · cases h2
    · cases h2

theorem Rd.addr (h : Rd σ v sz els) : iaddrsA sz v (.int k a) = if 0 ≤ a ∧ a < els.length then some (elA v a.toNat 0) else none := by
  obtain ⟨h1, h2, h3⟩ := h
  cases v <;> simp only [] at h1
  · simp only [elems] at h2; cases h2
    have : ¬ (0 ≤ a ∧ a < (([] : List (List AV)).length : Int)) := by simp
    rw [if_neg this]; rfl
  · simp only [elems] at h2; split at h2 <;> cases h2
    simp only [iaddrsA, intOf?, elA]
    by_cases h0 : 0 ≤ a
    · rw [if_pos h0]
      by_cases hl : a < els.length
      · rw [if_pos ⟨h0, hl⟩]
        have hl' : a.toNat < els.length := by omega
        rw [List.getElem?_eq_getElem hl']
        have := h3 _ (List.getElem_mem hl')
        simp [this, hl']
      · have hl' : els.length ≤ a.toNat := by omega
        rw [List.getElem?_eq_none hl', if_neg (by omega)]
    · rw [if_neg h0, if_neg (by omega)]
  · rename_i id ver z off len clip
    simp only [elems] at h2
    split at h2
    · split at h2
      · rename_i hc; cases h2
        simp only [iaddrsA, intOf?, elA]
        have e : ((List.take len (List.drop off (by assumption))).length : Nat) = len := by rw [List.length_take, List.length_drop]; omega
        rw [e]
        by_cases hl : 0 ≤ a ∧ a < len
        · rw [if_pos ⟨hl.1, hl.2, hc.2.2.1⟩, if_pos hl]
        · rw [if_neg (fun h => hl ⟨h.1, h.2.1⟩), if_neg hl]
      · cases h2
    · cases h2

theorem Rd.load (h : Rd σ v sz els) {j off n : Nat} {agg : Bool} (hj : j < els.length) : loadA X σ agg n (elA v j off) = part agg n (els.getD j []) off := by
  obtain ⟨h1, h2, h3⟩ := h
  cases v <;> simp only [] at h1
  · simp only [elems] at h2; cases h2; simp at hj
  · simp only [elems] at h2; split at h2 <;> cases h2; rfl
  · rename_i id ver z o len clip
    simp only [elems] at h2
    split at h2
    · rename_i v' sz' ty els' hr
      split at h2
      · rename_i hc; cases h2
        have hjl : j < len := by rw [List.length_take] at hj; omega
        have hg : els'[o + j]? = some ((List.take len (List.drop o els')).getD j []) := by
          rw [List.getElem?_eq_getElem (by omega)]
          simp [List.getD_eq_getElem?_getD, List.getElem?_take, hjl, List.getElem?_drop]
          rw [List.getElem?_eq_getElem (by omega)]; rfl
        have hs : ((List.take len (List.drop o els')).getD j []).length = sz := by
          apply h3
          rw [List.getD_eq_getElem?_getD, List.getElem?_eq_getElem hj]
          exact List.getElem_mem hj
        simp only [elA, loadA, hr]
        rw [if_pos hc.1, hg]
        simp only [Option.bind_some]
        rw [hc.2.1, if_pos hs]
      · cases h2
    · cases h2

theorem Rd.faddr (h : Rd σ v sz els) {j off n : Nat} (hj : j < els.length) : faddrA X n (elA v j off) = some (elA v j (off + n)) := by
  obtain ⟨h1, h2, h3⟩ := h
  cases v <;> simp only [] at h1
  · simp only [elems] at h2; cases h2; simp at hj
  · rfl
  · rfl

theorem Rd.sl {els : List (List AV)} {c : Bool} (h : ∀ el ∈ els, el.length = sz) : Rd σ (.sl els c) sz els :=
  ⟨trivial, by simp only [elems]; rw [if_pos]; simpa using h, h⟩
theorem Rd.nils : Rd σ .nils sz [] := ⟨trivial, rfl, by simp⟩

theorem Rd.ext {H L : List AObj} {lo lo' : Option Nat} (h : Rd ⟨H, lo⟩ v sz els) : Rd ⟨H ++ L, lo'⟩ v sz els := by
  obtain ⟨h1, h2, h3⟩ := h
  refine ⟨h1, ?_, h3⟩
  cases v <;> simp only [] at h1
  · exact h2
  · exact h2
  · rename_i id ver z o len clip
    simp only [elems] at h2 ⊢
    split at h2
    · rename_i hr
      rw [List.getElem?_append_left (List.getElem?_eq_some_iff.1 hr).1, hr]; exact h2
    · cases h2
end

theorem foldA_one {f : AV → AV → Option AV} {x : AV} : foldA f [x] = some x := by rw [foldA]
theorem foldA_more {f : AV → AV → Option AV} {x y z : AV} {r : List AV} (h : f x y = some z) : foldA f (x :: y :: r) = foldA f (z :: r) := by rw [foldA, h]
theorem max_2 {k k' : IntKind} {a b : Int} {r : List AV} : foldA maxA (.int k a :: .int k' b :: r) = foldA maxA (.int k (max a b) :: r) := by
  refine foldA_more ?_
  simp only [maxA]; congr 2; omega
theorem min_2 {k k' : IntKind} {a b : Int} {r : List AV} : foldA minA (.int k a :: .int k' b :: r) = foldA minA (.int k (min a b) :: r) := by
  refine foldA_more ?_
  simp only [minA]; congr 2; omega

/-! What was there stays. -/
theorem take_pre {H H' : List AObj} {n : Nat} (h : H.length = n) (hp : H <+: H') : H'.take n = H := by
  subst h; exact List.prefix_iff_eq_take.1 hp |>.symm

theorem Rd.mono {H H' : List AObj} {lo lo' : Option Nat} {v : AV} {sz : Nat} {els : List (List AV)} (h : Rd ⟨H, lo⟩ v sz els) (hp : H <+: H') : Rd ⟨H', lo'⟩ v sz els := by
  obtain ⟨L, rfl⟩ := hp; exact h.ext

/-- A slice that is never written again. -/
def Rv (v : AV) (sz : Nat) (els : List (List AV)) : Prop := ∀ σ, Rd σ v sz els

theorem Rv.len {v : AV} {sz : Nat} {els : List (List AV)} (h : Rv v sz els) {σ : AS} : lenA σ .sl v = some (.int .i64 els.length) := (h σ).len
theorem Rv.addr {v : AV} {sz : Nat} {els : List (List AV)} (h : Rv v sz els) {k : IntKind} {a : Int} : iaddrsA sz v (.int k a) = if 0 ≤ a ∧ a < els.length then some (elA v a.toNat 0) else none := (h ⟨[], none⟩).addr
theorem Rv.load {X : Ctx} {v : AV} {sz : Nat} {els : List (List AV)} (h : Rv v sz els) {σ : AS} {j off n : Nat} {agg : Bool} (hj : j < els.length) : loadA X σ agg n (elA v j off) = part agg n (els.getD j []) off := (h σ).load hj
theorem Rv.faddr {X : Ctx} {v : AV} {sz : Nat} {els : List (List AV)} (h : Rv v sz els) {j off n : Nat} (hj : j < els.length) : faddrA X n (elA v j off) = some (elA v j (off + n)) := (h ⟨[], none⟩).faddr hj
theorem Rv.elems {v : AV} {sz : Nat} {els : List (List AV)} (h : Rv v sz els) {σ : AS} : Den.elems σ sz v = some els := (h σ).eq
theorem Rv.sl {sz : Nat} {els : List (List AV)} {c : Bool} (h : ∀ el ∈ els, el.length = sz) : Rv (.sl els c) sz els := fun _ => .sl h
theorem Rv.nils {sz : Nat} : Rv .nils sz [] := fun _ => .nils

theorem ret_eq {v v' : AV} {H H' : List AObj} {lo : Option Nat} (h : v = v') (h' : H = H') : CRes.ret v ⟨H, lo⟩ = CRes.ret v' ⟨H', lo⟩ := by rw [h, h']

theorem cast_succ {k m : Nat} : ((k + m : Nat) : Int) = (k : Int) + (m : Int) := Int.natCast_add k m

theorem castN {n : Nat} : ((OfNat.ofNat n : Nat) : Int) = OfNat.ofNat n := rfl
theorem cast_zero : ((0 : Nat) : Int) = 0 := rfl

theorem map_getD {α : Type} [Inhabited α] {g : α → List AV} {l : List α} {j : Nat} (h : j < l.length) : (l.map g).getD j [] = g (l.getD j default) := by
  simp [List.getD_eq_getElem?_getD, List.getElem?_eq_getElem h]

section
variable {α : Type} {g : α → List AV} {l : List α} {v : AV} {sz : Nat}
theorem Rv.lenM (h : Rv v sz (l.map g)) {σ : AS} : lenA σ .sl v = some (.int .i64 l.length) := by rw [h.len, List.length_map]
theorem Rv.addrM (h : Rv v sz (l.map g)) {k : IntKind} {a : Int} : iaddrsA sz v (.int k a) = if 0 ≤ a ∧ a < l.length then some (elA v a.toNat 0) else none := by rw [h.addr, List.length_map]
theorem Rv.loadM [Inhabited α] {X : Ctx} (h : Rv v sz (l.map g)) {σ : AS} {j off n : Nat} {agg : Bool} (hj : j < l.length) : loadA X σ agg n (elA v j off) = part agg n (g (l.getD j default)) off := by
  rw [h.load (by simpa using hj), map_getD hj]
theorem Rv.faddrM {X : Ctx} (h : Rv v sz (l.map g)) {j off n : Nat} (hj : j < l.length) : faddrA X n (elA v j off) = some (elA v j (off + n)) := h.faddr (by simpa using hj)
theorem Rd.lenM {σ : AS} (h : Rd σ v sz (l.map g)) : lenA σ .sl v = some (.int .i64 l.length) := by rw [h.len, List.length_map]
theorem Rd.addrM {σ : AS} (h : Rd σ v sz (l.map g)) {k : IntKind} {a : Int} : iaddrsA sz v (.int k a) = if 0 ≤ a ∧ a < l.length then some (elA v a.toNat 0) else none := by rw [h.addr, List.length_map]
theorem Rd.loadM [Inhabited α] {X : Ctx} {σ : AS} (h : Rd σ v sz (l.map g)) {j off n : Nat} {agg : Bool} (hj : j < l.length) : loadA X σ agg n (elA v j off) = part agg n (g (l.getD j default)) off := by
  rw [h.load (by simpa using hj), map_getD hj]
theorem Rd.faddrM {X : Ctx} {σ : AS} (h : Rd σ v sz (l.map g)) {j off n : Nat} (hj : j < l.length) : faddrA X n (elA v j off) = some (elA v j (off + n)) := h.faddr (by simpa using hj)
end

theorem V1 : type_of% @bin_add ∧ type_of% @bin_sub ∧ type_of% @bin_mul ∧ type_of% @bin_quo ∧ type_of% @bin_rem ∧ type_of% @bin_lss ∧ type_of% @bin_leq ∧ type_of% @bin_gtr ∧ type_of% @bin_geq ∧ type_of% @bin_and ∧ type_of% @bin_or ∧ type_of% @bin_xor ∧ type_of% @bin_andNot ∧ type_of% @shf_shl ∧ type_of% @shf_shr ∧ type_of% @eq_int ∧ type_of% @eq_bool ∧ type_of% @un_not ∧ type_of% @un_neg ∧ type_of% @eq_str ∧ type_of% @S_add ∧ type_of% @len_S ∧ type_of% @idx_S ∧ type_of% @sl_S ∧ type_of% @sl_S0 ∧ type_of% @sl_S1 ∧ type_of% @sl_S2 ∧ type_of% @isTup_S ∧ type_of% @cells_S ∧ type_of% @refs_S ∧ type_of% @retK_one ∧ type_of% @retK_two ∧ type_of% @retK_three ∧ type_of% @retK_none ∧ type_of% @retK_none' ∧ type_of% @load_ptr ∧ type_of% @load_eptr ∧ type_of% @store_ptr ∧ type_of% @part_1 ∧ type_of% @part_n ∧ type_of% @nilck_ptr ∧ type_of% @nilck_rptr ∧ type_of% @nilck_eptr ∧ type_of% @faddr_ptr ∧ type_of% @faddr_rptr ∧ type_of% @faddr_eptr ∧ type_of% @box_int ∧ type_of% @box_bool ∧ type_of% @box_S ∧ type_of% @box_agg ∧ type_of% @splice_0 ∧ type_of% @splice_s ∧ type_of% @set_at ∧ type_of% @selB_true ∧ type_of% @selB_false :=
  ⟨@bin_add, @bin_sub, @bin_mul, @bin_quo, @bin_rem, @bin_lss, @bin_leq, @bin_gtr, @bin_geq, @bin_and, @bin_or, @bin_xor, @bin_andNot, @shf_shl, @shf_shr, @eq_int, @eq_bool, @un_not, @un_neg, @eq_str, @S_add, @len_S, @idx_S, @sl_S, @sl_S0, @sl_S1, @sl_S2, @isTup_S, @cells_S, @refs_S, @retK_one, @retK_two, @retK_three, @retK_none, @retK_none', @load_ptr, @load_eptr, @store_ptr, @part_1, @part_n, @nilck_ptr, @nilck_rptr, @nilck_eptr, @faddr_ptr, @faddr_rptr, @faddr_eptr, @box_int, @box_bool, @box_S, @box_agg, @splice_0, @splice_s, @set_at, @selB_true, @selB_false⟩

theorem V3 : type_of% @envOf_0 ∧ type_of% @cast_zero ∧ type_of% @cast_succ ∧ type_of% @Int.toNat_natCast ∧ type_of% @Int.natCast_nonneg ∧ type_of% @foldA_one ∧ type_of% @max_2 ∧ type_of% @min_2 ∧ type_of% @envOf_s ∧ type_of% @envOf_nil ∧ type_of% @not_not_t ∧ type_of% @not_not_f ∧ type_of% @Option.map_some.{0,0} ∧ type_of% @Option.map_none.{0,0} ∧ type_of% @List.map_cons.{0,0} ∧ type_of% @List.map_nil.{0,0} ∧ type_of% @not_false_eq_true ∧ type_of% @true_and ∧ type_of% @and_true ∧ type_of% @Nat.zero_le ∧ type_of% @List.length_cons.{0} ∧ type_of% @List.length_nil.{0} ∧ type_of% @List.length_append.{0} ∧ type_of% @List.length_map.{0,0} ∧ type_of% @if_true.{1} ∧ type_of% @if_false.{1} ∧ type_of% @if_true.{0} ∧ type_of% @if_false.{0} ∧ type_of% @ne_eq.{1} ∧ type_of% @List.cons_append.{0} ∧ type_of% @List.nil_append.{0} ∧ type_of% @List.append_nil.{0} ∧ type_of% @Nat.zero_add ∧ type_of% @List.length_set.{0} ∧ type_of% @List.append_assoc.{0} ∧ type_of% @List.getElem?_cons_zero.{0} ∧ type_of% @List.getElem?_cons_succ.{0} ∧ type_of% @List.set_cons_zero.{0} ∧ type_of% @List.set_cons_succ.{0} ∧ type_of% @List.drop_succ_cons.{0} ∧ type_of% @List.drop_zero.{0} ∧ type_of% @List.take_succ_cons.{0} ∧ type_of% @List.take_zero.{0} ∧ type_of% @Nat.max_self ∧ type_of% @Nat.zero_max ∧ type_of% @Nat.max_zero :=
  ⟨@envOf_0, @cast_zero, @cast_succ, @Int.toNat_natCast, @Int.natCast_nonneg, @foldA_one, @max_2, @min_2, @envOf_s, @envOf_nil, @not_not_t, @not_not_f, @Option.map_some.{0,0}, @Option.map_none.{0,0}, @List.map_cons.{0,0}, @List.map_nil.{0,0}, @not_false_eq_true, @true_and, @and_true, @Nat.zero_le, @List.length_cons.{0}, @List.length_nil.{0}, @List.length_append.{0}, @List.length_map.{0,0}, @if_true.{1}, @if_false.{1}, @if_true.{0}, @if_false.{0}, @ne_eq.{1}, @List.cons_append.{0}, @List.nil_append.{0}, @List.append_nil.{0}, @Nat.zero_add, @List.length_set.{0}, @List.append_assoc.{0}, @List.getElem?_cons_zero.{0}, @List.getElem?_cons_succ.{0}, @List.set_cons_zero.{0}, @List.set_cons_succ.{0}, @List.drop_succ_cons.{0}, @List.drop_zero.{0}, @List.take_succ_cons.{0}, @List.take_zero.{0}, @Nat.max_self, @Nat.zero_max, @Nat.max_zero⟩

theorem F1 : type_of% @finish_0 ∧ type_of% @finish_1 := ⟨@finish_0, @finish_1⟩

theorem V2 : type_of% @isTup_int ∧ type_of% @isTup_bool ∧ type_of% @isTup_ptr ∧ type_of% @isTup_rptr ∧ type_of% @isTup_eptr ∧ type_of% @isTup_nilp ∧ type_of% @isTup_nils ∧ type_of% @isTup_sl ∧ type_of% @isTup_ref ∧ type_of% @isTup_aref ∧ type_of% @isTup_nilm ∧ type_of% @isTup_mp ∧ type_of% @isTup_fn ∧ type_of% @isTup_nilf ∧ type_of% @isTup_ifc ∧ type_of% @isTup_nili ∧ type_of% @isTup_glob ∧ type_of% @isTup_agg ∧ type_of% @cells_int ∧ type_of% @cells_bool ∧ type_of% @cells_ptr ∧ type_of% @cells_rptr ∧ type_of% @cells_eptr ∧ type_of% @cells_nilp ∧ type_of% @cells_nils ∧ type_of% @cells_sl ∧ type_of% @cells_ref ∧ type_of% @cells_aref ∧ type_of% @cells_nilm ∧ type_of% @cells_mp ∧ type_of% @cells_fn ∧ type_of% @cells_nilf ∧ type_of% @cells_ifc ∧ type_of% @cells_nili ∧ type_of% @cells_glob ∧ type_of% @cells_agg ∧ type_of% @refs_int ∧ type_of% @refs_bool ∧ type_of% @refs_ptr ∧ type_of% @refs_rptr ∧ type_of% @refs_nilp ∧ type_of% @refs_nils ∧ type_of% @refs_ref ∧ type_of% @refs_aref ∧ type_of% @refs_nilm ∧ type_of% @refs_mp ∧ type_of% @refs_nilf ∧ type_of% @refs_nili ∧ type_of% @refs_glob ∧ type_of% @refs_fn ∧ type_of% @refs_ifc ∧ type_of% @refs_agg ∧ type_of% @refs_tup ∧ type_of% @refs_sl ∧ type_of% @refs_eptr ∧ type_of% @refsL_nil ∧ type_of% @refsL_cons :=
  ⟨@isTup_int, @isTup_bool, @isTup_ptr, @isTup_rptr, @isTup_eptr, @isTup_nilp, @isTup_nils, @isTup_sl, @isTup_ref, @isTup_aref, @isTup_nilm, @isTup_mp, @isTup_fn, @isTup_nilf, @isTup_ifc, @isTup_nili, @isTup_glob, @isTup_agg, @cells_int, @cells_bool, @cells_ptr, @cells_rptr, @cells_eptr, @cells_nilp, @cells_nils, @cells_sl, @cells_ref, @cells_aref, @cells_nilm, @cells_mp, @cells_fn, @cells_nilf, @cells_ifc, @cells_nili, @cells_glob, @cells_agg, @refs_int, @refs_bool, @refs_ptr, @refs_rptr, @refs_nilp, @refs_nils, @refs_ref, @refs_aref, @refs_nilm, @refs_mp, @refs_nilf, @refs_nili, @refs_glob, @refs_fn, @refs_ifc, @refs_agg, @refs_tup, @refs_sl, @refs_eptr, @refsL_nil, @refsL_cons⟩

end Go.Den

/- Den: what code leaves alone; cuts. -/
namespace Go.Den
open Go

def dsts : List Ins → List Nat
  | [] => []
  | o :: os => match o.dst with
    | some d => d :: dsts os
    | none => dsts os

def dstsD : List (Ins × List Nat) → List Nat
  | [] => []
  | o :: os => match o.1.dst with
    | some d => d :: dstsD os
    | none => dstsD os

def wrs : PC → List Nat
  | .skip | .exit _ | .ret => []
  | .reg os => dsts os
  | .dreg os => dstsD os
  | .seq a b => wrs a ++ wrs b
  | .cond _ a b => wrs a ++ wrs b
  | .block _ b => wrs b
  | .loop b => wrs b
  | .rfun .. => []

theorem Fr.put_env {fr : Fr} {d : Option Nat} {v : AV} {t : Nat} (h : d ≠ some t) : (fr.put d v).env t = fr.env t := by
  cases d with
  | none => rfl
  | some d =>
    simp only [Fr.put, Env.set]
    rw [if_neg]; intro e; exact h (by rw [e])

theorem dstsD_slot : ∀ (os : List (Ins × List Nat)) (n : Nat), dstsD (slotOps n os) = dstsD os
  | [], _ => rfl
  | o :: os, n => by
    have h : (slotIns n o.1).dst = o.1.dst := by
      unfold slotIns
      split <;> rfl
    simp only [slotOps, dstsD, h, dstsD_slot os]

section
variable {X : Ctx} {C : Caller} {L : Loops}

theorem runOps_frame : ∀ (os : List Ins) (fr fr' : Fr) (σ σ' : AS) (ex : Ex), runOps X C os fr σ = some (ex, fr', σ') → ∀ t, t ∉ dsts os → fr'.env t = fr.env t
  | [], fr, fr', σ, σ', ex, h, t, ht => by simp only [runOps, Option.some.injEq, Prod.mk.injEq] at h; rw [h.2.1]
  | o :: os, fr, fr', σ, σ', ex, h, t, ht => by
    have hd : o.dst ≠ some t := by
      intro e; apply ht; simp [dsts, e]
    have ht' : t ∉ dsts os := by
      intro e; apply ht; simp only [dsts]; split
      · exact List.mem_cons_of_mem _ e
      · exact e
    simp only [runOps] at h
    split at h
    · split at h
      · rw [runOps_frame os _ _ _ _ _ h t ht', Fr.put_env hd]
      · simp only [Option.some.injEq, Prod.mk.injEq] at h; rw [h.2.1]
      · cases h
    · rw [runOps_frame os _ _ _ _ _ h t ht', Fr.put_env hd]

theorem runOpsD_frame : ∀ (os : List (Ins × List Nat)) (fps : List FP) (fr fr' : Fr) (σ σ' : AS) (ex : Ex), runOpsD X C fps os fr σ = some (ex, fr', σ') → ∀ t, t ∉ dstsD os → fr'.env t = fr.env t
  | [], fps, fr, fr', σ, σ', ex, h, t, ht => by simp only [runOpsD, Option.some.injEq, Prod.mk.injEq] at h; rw [h.2.1]
  | o :: os, fps, fr, fr', σ, σ', ex, h, t, ht => by
    have hd : o.1.dst ≠ some t := by
      intro e; apply ht; simp [dstsD, e]
    have ht' : t ∉ dstsD os := by
      intro e; apply ht; simp only [dstsD]; split
      · exact List.mem_cons_of_mem _ e
      · exact e
    simp only [runOpsD] at h
    split at h
    · split at h
      · split at h
        · rw [runOpsD_frame os _ _ _ _ _ _ h t ht', Fr.put_env hd]
        · cases h
      · split at h
        · simp only [Option.some.injEq, Prod.mk.injEq] at h; rw [h.2.1]
        · cases h
      · cases h
    · rw [runOpsD_frame os _ _ _ _ _ _ h t ht', Fr.put_env hd]

theorem runCode_frame {fid : FuncId} {rd : Bool} : ∀ (pc : PC) (fr fr' : Fr) (σ σ' : AS) (ex : Ex), runCode X C Lw fid rd pc fr σ = some (ex, fr', σ') → ∀ t, t ∉ wrs pc → fr'.env t = fr.env t
  | .skip, fr, fr', σ, σ', ex, h, t, ht => by simp only [runCode, Option.some.injEq, Prod.mk.injEq] at h; rw [h.2.1]
  | .exit _, fr, fr', σ, σ', ex, h, t, ht => by simp only [runCode, Option.some.injEq, Prod.mk.injEq] at h; rw [h.2.1]
  | .ret, fr, fr', σ, σ', ex, h, t, ht => by simp only [runCode, Option.some.injEq, Prod.mk.injEq] at h; rw [h.2.1]
  | .seq a b, fr, fr', σ, σ', ex, h, t, ht => by
    simp only [wrs, List.mem_append, not_or] at ht
    simp only [runCode] at h
    split at h
    · rename_i hx
      rw [runCode_frame b _ _ _ _ _ h t ht.2, runCode_frame a _ _ _ _ _ hx t ht.1]
    · exact runCode_frame a _ _ _ _ _ h t ht.1
  | .cond c a b, fr, fr', σ, σ', ex, h, t, ht => by
    simp only [wrs, List.mem_append, not_or] at ht
    simp only [runCode] at h
    split at h
    · split at h
      · exact runCode_frame a _ _ _ _ _ h t ht.1
      · exact runCode_frame b _ _ _ _ _ h t ht.2
    · cases h
  | .block id body, fr, fr', σ, σ', ex, h, t, ht => by
    simp only [wrs] at ht
    simp only [runCode] at h
    split at h
    · rename_i hx
      split at h <;> simp only [Option.some.injEq, Prod.mk.injEq] at h <;> rw [← h.2.1] <;> exact runCode_frame body _ _ _ _ _ hx t ht
    · exact runCode_frame body _ _ _ _ _ h t ht
  | .loop body, fr, fr', σ, σ', ex, h, t, ht => by
    simp only [wrs] at ht
    simp only [runCode] at h
    obtain ⟨n, hn⟩ := Lw_fuel h
    clear h
    induction n generalizing fr σ with
    | zero => simp [iter] at hn
    | succ n ih =>
      rw [iter] at hn
      split at hn
      · rename_i hx
        rw [ih _ _ hn, runCode_frame body _ _ _ _ _ hx t ht]
      · exact runCode_frame body _ _ _ _ _ hn t ht
  | .reg os, fr, fr', σ, σ', ex, h, t, ht => by
    simp only [runCode] at h
    exact runOps_frame os _ _ _ _ _ h t ht
  | .dreg os, fr, fr', σ, σ', ex, h, t, ht => by
    simp only [runCode] at h
    exact runOpsD_frame _ _ _ _ _ _ _ h t (by rw [dstsD_slot]; exact ht)
  | .rfun g ps as bd, fr, fr', σ, σ', ex, h, t, ht => by
    simp only [runCode] at h
    split at h
    · cases h
    · split at h
      · split at h
        · simp only [endLoop] at h
          split at h
          · split at h
            · cases h
            · split at h
              · simp only [Option.some.injEq, Prod.mk.injEq] at h; rw [← h.2.1]
              · split at h
                · simp only [Option.some.injEq, Prod.mk.injEq] at h; rw [← h.2.1]
                · cases h
          · cases h
        · simp only [Option.some.injEq, Prod.mk.injEq] at h; rw [← h.2.1]
        · cases h
      · cases h
end

def inW : List Nat → Nat → Bool
  | [], _ => false
  | a :: as, t => a == t || inW as t

theorem inW_iff {t : Nat} : ∀ {W : List Nat}, inW W t = true ↔ t ∈ W
  | [] => by simp [inW]
  | a :: as => by
    simp only [inW, Bool.or_eq_true, beq_iff_eq, List.mem_cons]
    rw [inW_iff]
    constructor
    · rintro (e | e)
      · exact .inl e.symm
      · exact .inr e
    · rintro (e | e)
      · exact .inl e.symm
      · exact .inr e

/-- Nothing is known of these temporaries any more. -/
def Env.over (W : List Nat) (e0 e : Env) : Env := fun t => if inW W t then e0 t else e t

def selE (b : Bool) (e0 e : Env) (t : Nat) : AV := match b with | true => e0 t | false => e t
theorem selE_true {e0 e : Env} {t : Nat} : selE true e0 e t = e0 t := rfl
theorem selE_false {e0 e : Env} {t : Nat} : selE false e0 e t = e t := rfl
theorem over_at {W : List Nat} {e0 e : Env} {t : Nat} : Env.over W e0 e t = selE (inW W t) e0 e t := by
  unfold Env.over selE; cases inW W t <;> rfl

theorem over_frame {W : List Nat} {e e' : Env} (h : ∀ t, t ∉ W → e' t = e t) : e' = Env.over W e' e := by
  funext t
  unfold Env.over
  split
  · rfl
  · rename_i hn; exact h t (fun hm => hn (inW_iff.2 hm))

theorem set_frame {W : List Nat} {e e' : Env} {r : Nat} {v : AV} (h : ∀ t, t ∉ W → e' t = e t) (hr : e' r = v) : e' = (Env.over W e' e).set r v := by
  funext t
  unfold Env.set
  split
  · rename_i ht; subst ht; exact hr
  · exact congrFun (over_frame h) t

section
variable {X : Ctx} {f : FuncId} {rd : Bool} {σ σ₂ : AS} {Q : Post} {e : Env} {ms : List Nat} {t : Nat} {b c : Bool} {d : Option Nat} {i : I} {os : List Ins}

def cutK (r : Nat) (v : AV) (ms : List Nat) (σ₂ : AS) (Q : Post) : Post
  | .normal, fr, σ' => fr.env r = v ∧ fr.marks = ms ∧ σ' = σ₂
  | ex, fr, σ' => Q ex fr σ'

theorem cutK_normal {r : Nat} {v : AV} {ms ms' : List Nat} : cutK r v ms σ₂ Q .normal ⟨e, ms'⟩ σ = (e r = v ∧ ms' = ms ∧ σ = σ₂) := rfl

theorem wpO_cut (r : Nat) (v : AV) (h1 : wpO X os ⟨e, ms⟩ σ (cutK r v ms σ₂ Q)) (h2 : ∀ e0, Q .normal ⟨(Env.over (dsts os) e0 e).set r v, ms⟩ σ₂) : wpO X os ⟨e, ms⟩ σ Q := by
  obtain ⟨ex, fr', σ', hr, hq⟩ := h1
  have hf := runOps_frame os _ _ _ _ _ hr
  refine ⟨ex, fr', σ', hr, ?_⟩
  cases ex with
  | normal =>
    obtain ⟨h3, h4, h5⟩ := hq
    have e1 := set_frame (e' := fr'.env) hf h3
    have := h2 fr'.env
    rw [← e1, ← h4, ← h5] at this
    exact this
  | _ => exact hq

/-- The rest of a region from a guard on: its end's one value. -/
theorem gK_cutS (σ₂ : AS) (r : Nat) (v : AV) {cc : AV} (hc : e t = cc) (h1 : gK X t b d i os e ms σ (cutK r v ms σ₂ Q) cc) (h2 : ∀ e0, Q .normal ⟨(Env.over (dsts (⟨none, d, i⟩ :: os)) e0 e).set r v, ms⟩ σ₂) : gK X t b d i os e ms σ Q cc := by
  subst hc
  have key : ∀ Q, gK X t b d i os e ms σ Q (e t) = wpO X (⟨some (t, b), d, i⟩ :: os) ⟨e, ms⟩ σ Q := by
    intro Q
    cases b
    · exact wO_gf.symm
    · exact wO_gt.symm
  rw [key] at h1 ⊢
  exact wpO_cut r v h1 h2

theorem gK_cut (r : Nat) (v : AV) {cc : AV} (hc : e t = cc) (h1 : gK X t b d i os e ms σ (cutK r v ms σ Q) cc) (h2 : ∀ e0, Q .normal ⟨(Env.over (dsts (⟨none, d, i⟩ :: os)) e0 e).set r v, ms⟩ σ) : gK X t b d i os e ms σ Q cc := gK_cutS σ r v hc h1 h2

theorem wp_cut {p q : PC} (r : Nat) (v : AV) (σ₂ : AS) (h1 : wp X f rd p ⟨e, ms⟩ σ (cutK r v ms σ₂ (seqK X f rd q Q))) (h2 : ∀ e0, wp X f rd q ⟨(Env.over (wrs p) e0 e).set r v, ms⟩ σ₂ Q) : wp X f rd (.seq p q) ⟨e, ms⟩ σ Q := by
  rw [wp_seq]
  obtain ⟨ex, fr', σ', hr, hq⟩ := h1
  have hf := runCode_frame p _ _ _ _ _ hr
  refine ⟨ex, fr', σ', hr, ?_⟩
  cases ex with
  | normal =>
    obtain ⟨h3, h4, h5⟩ := hq
    have e1 := set_frame (e' := fr'.env) hf h3
    have := h2 fr'.env
    rw [← e1, ← h4, ← h5] at this
    exact this
  | _ => exact hq
end

/-- Of an environment, these alone. -/
def keepE (e : Env) : List Nat → Env → Env
  | [], e0 => e0
  | t :: ts, e0 => (keepE e ts e0).set t (e t)

theorem keepE_eq {W : List Nat} {e e' : Env} (h : ∀ t, t ∉ W → e' t = e t) : ∀ ks : List Nat, ks.all (fun k => !inW W k) = true → keepE e ks e' = e'
  | [], _ => rfl
  | k :: ks, hk => by
    simp only [List.all_cons, Bool.and_eq_true] at hk
    have hn : k ∉ W := by
      intro hm
      have := inW_iff.2 hm
      rw [this] at hk; simp at hk
    simp only [keepE]
    rw [keepE_eq h ks hk.2, ← h k hn, Env.set_self]

section
variable {X : Ctx} {f : FuncId} {rd : Bool} {σ : AS} {Q : Post} {e : Env} {ms : List Nat} {t : Nat} {b c : Bool} {d : Option Nat} {i : I} {os : List Ins}

theorem wpO_keep (σ₂ : AS) (r : Nat) (v : AV) (ks : List Nat) (hk : ks.all (fun k => !inW (dsts os) k) = true) (h1 : wpO X os ⟨e, ms⟩ σ (cutK r v ms σ₂ Q)) (h2 : ∀ e0, Q .normal ⟨(keepE e ks e0).set r v, ms⟩ σ₂) : wpO X os ⟨e, ms⟩ σ Q := by
  obtain ⟨ex, fr', σ', hr, hq⟩ := h1
  have hf := runOps_frame os _ _ _ _ _ hr
  refine ⟨ex, fr', σ', hr, ?_⟩
  cases ex with
  | normal =>
    obtain ⟨h3, h4, h5⟩ := hq
    have := h2 fr'.env
    rw [keepE_eq hf ks hk, ← h3, Env.set_self, ← h4, ← h5] at this
    exact this
  | _ => exact hq

theorem gK_keep (r : Nat) (v : AV) (ks : List Nat) {cc : AV} (hc : e t = cc) (hk : ks.all (fun k => !inW (dsts (⟨none, d, i⟩ :: os)) k) = true) (h1 : gK X t b d i os e ms σ (cutK r v ms σ Q) cc) (h2 : ∀ e0, Q .normal ⟨(keepE e ks e0).set r v, ms⟩ σ) : gK X t b d i os e ms σ Q cc := by
  subst hc
  have key : ∀ Q, gK X t b d i os e ms σ Q (e t) = wpO X (⟨some (t, b), d, i⟩ :: os) ⟨e, ms⟩ σ Q := by
    intro Q
    cases b
    · exact wO_gf.symm
    · exact wO_gt.symm
  rw [key] at h1 ⊢
  exact wpO_keep σ r v ks hk h1 h2

theorem condK_keepS {p q : PC} {cc : AV} (r : Nat) (v : AV) (ks : List Nat) (σ₂ : AS) (hk : ks.all (fun k => !inW (wrs p ++ wrs q) k) = true) (h1 : condK X f rd p q ⟨e, ms⟩ σ (cutK r v ms σ₂ Q) cc) (h2 : ∀ e0, Q .normal ⟨(keepE e ks e0).set r v, ms⟩ σ₂) : condK X f rd p q ⟨e, ms⟩ σ Q cc := by
  have key : ∀ Q, condK X f rd p q ⟨e, ms⟩ σ Q cc = wp X f rd (.cond (.c cc) p q) ⟨e, ms⟩ σ Q := fun Q => by rw [wp_cond']; rfl
  rw [key] at h1 ⊢
  obtain ⟨ex, fr', σ', hr, hq⟩ := h1
  have hf := runCode_frame (.cond (.c cc) p q) _ _ _ _ _ hr
  refine ⟨ex, fr', σ', hr, ?_⟩
  cases ex with
  | normal =>
    obtain ⟨h3, h4, h5⟩ := hq
    have := h2 fr'.env
    rw [keepE_eq hf ks hk, ← h3, Env.set_self, ← h4, ← h5] at this
    exact this
  | _ => exact hq

theorem condK_keep {p q : PC} {cc : AV} (r : Nat) (v : AV) (ks : List Nat) (hk : ks.all (fun k => !inW (wrs p ++ wrs q) k) = true) (h1 : condK X f rd p q ⟨e, ms⟩ σ (cutK r v ms σ Q) cc) (h2 : ∀ e0, Q .normal ⟨(keepE e ks e0).set r v, ms⟩ σ) : condK X f rd p q ⟨e, ms⟩ σ Q cc := condK_keepS r v ks σ hk h1 h2

def cutP (r : Nat) (v : AV) (ms : List Nat) (P : AS → Prop) (Q : Post) : Post
  | .normal, fr, σ' => fr.env r = v ∧ fr.marks = ms ∧ P σ'
  | ex, fr, σ' => Q ex fr σ'

theorem cutP_normal {r : Nat} {v : AV} {ms ms' : List Nat} {P : AS → Prop} : cutP r v ms P Q .normal ⟨e, ms'⟩ σ = (e r = v ∧ ms' = ms ∧ P σ) := rfl

theorem condK_keepP {p q : PC} {cc : AV} (r : Nat) (v : AV) (ks : List Nat) (P : AS → Prop) (hk : ks.all (fun k => !inW (wrs p ++ wrs q) k) = true) (h1 : condK X f rd p q ⟨e, ms⟩ σ (cutP r v ms P Q) cc) (h2 : ∀ e0 σ₂, P σ₂ → Q .normal ⟨(keepE e ks e0).set r v, ms⟩ σ₂) : condK X f rd p q ⟨e, ms⟩ σ Q cc := by
  have key : ∀ Q, condK X f rd p q ⟨e, ms⟩ σ Q cc = wp X f rd (.cond (.c cc) p q) ⟨e, ms⟩ σ Q := fun Q => by rw [wp_cond']; rfl
  rw [key] at h1 ⊢
  obtain ⟨ex, fr', σ', hr, hq⟩ := h1
  have hf := runCode_frame (.cond (.c cc) p q) _ _ _ _ _ hr
  refine ⟨ex, fr', σ', hr, ?_⟩
  cases ex with
  | normal =>
    obtain ⟨h3, h4, h5⟩ := hq
    have := h2 fr'.env σ' h5
    rw [keepE_eq hf ks hk, ← h3, Env.set_self, ← h4] at this
    exact this
  | _ => exact hq

/-- Where ways meet again: what holds there of all of them. -/
def midK (P : Env → List AObj → Option Nat → Prop) (Q : Post) : Post
  | .normal, fr, σ' => fr.marks = [] ∧ P fr.env σ'.heap σ'.lo
  | ex, fr, σ' => Q ex fr σ'
theorem midK_normal {P : Env → List AObj → Option Nat → Prop} {H : List AObj} {lo : Option Nat} : midK P Q .normal ⟨e, []⟩ ⟨H, lo⟩ = P e H lo := by simp [midK]
theorem midK_exit {P : Env → List AObj → Option Nat → Prop} {j : Nat} {fr : Fr} : midK P Q (.exit j) fr σ = Q (.exit j) fr σ := rfl
theorem midK_ret {P : Env → List AObj → Option Nat → Prop} {fr : Fr} : midK P Q .ret fr σ = Q .ret fr σ := rfl

theorem condK_mid {p q : PC} {cc : AV} (P : Env → List AObj → Option Nat → Prop) (h1 : condK X f rd p q ⟨e, []⟩ σ (midK P Q) cc) (h2 : ∀ e H lo, P e H lo → Q .normal ⟨e, []⟩ ⟨H, lo⟩) : condK X f rd p q ⟨e, []⟩ σ Q cc := by
  have key : ∀ Q, condK X f rd p q ⟨e, []⟩ σ Q cc = wp X f rd (.cond (.c cc) p q) ⟨e, []⟩ σ Q := fun Q => by rw [wp_cond']; rfl
  rw [key] at h1 ⊢
  refine wp_mono h1 ?_
  rintro ex ⟨e', ms⟩ ⟨H, lo⟩ h
  cases ex with
  | normal => obtain ⟨h3, h4⟩ := h; simp only at h3 h4; subst h3; exact h2 _ _ _ h4
  | _ => exact h

theorem wp_keepP {p q : PC} (r : Nat) (v : AV) (ks : List Nat) (P : AS → Prop) (hk : ks.all (fun k => !inW (wrs p) k) = true) (h1 : wp X f rd p ⟨e, ms⟩ σ (cutP r v ms P (seqK X f rd q Q))) (h2 : ∀ e0 σ₂, P σ₂ → wp X f rd q ⟨(keepE e ks e0).set r v, ms⟩ σ₂ Q) : wp X f rd (.seq p q) ⟨e, ms⟩ σ Q := by
  rw [wp_seq]
  obtain ⟨ex, fr', σ', hr, hq⟩ := h1
  have hf := runCode_frame p _ _ _ _ _ hr
  refine ⟨ex, fr', σ', hr, ?_⟩
  cases ex with
  | normal =>
    obtain ⟨h3, h4, h5⟩ := hq
    have := h2 fr'.env σ' h5
    rw [keepE_eq hf ks hk, ← h3, Env.set_self, ← h4] at this
    exact this
  | _ => exact hq

theorem wp_keep {p q : PC} (r : Nat) (v : AV) (ks : List Nat) (σ₂ : AS) (hk : ks.all (fun k => !inW (wrs p) k) = true) (h1 : wp X f rd p ⟨e, ms⟩ σ (cutK r v ms σ₂ (seqK X f rd q Q))) (h2 : ∀ e0, wp X f rd q ⟨(keepE e ks e0).set r v, ms⟩ σ₂ Q) : wp X f rd (.seq p q) ⟨e, ms⟩ σ Q := by
  rw [wp_seq]
  obtain ⟨ex, fr', σ', hr, hq⟩ := h1
  have hf := runCode_frame p _ _ _ _ _ hr
  refine ⟨ex, fr', σ', hr, ?_⟩
  cases ex with
  | normal =>
    obtain ⟨h3, h4, h5⟩ := hq
    have := h2 fr'.env
    rw [keepE_eq hf ks hk, ← h3, Env.set_self, ← h4, ← h5] at this
    exact this
  | _ => exact hq
end

/-! Regions of which Go leaves the order open. -/
def fpL (n : Nat) (a : AV) : FP := match a with
  | .ptr id off => .rd id off (Nat.max n 1)
  | .rptr .. => .q
  | .eptr .. => .no
  | .glob _ => .no
  | _ => .all
def fpS (n : Nat) (a : AV) : FP := match a with
  | .ptr id off => .wr id off n
  | .rptr .. => .app
  | _ => .all
noncomputable def fpC (σ σ' : AS) : FP := open Classical in if σ' = σ then .q else .all
section
variable {e : Env} {σ σ' : AS}
theorem fp_mov {x : Opd} : fpOf (.mov x) e σ σ' = .no := rfl
theorem fp_pick {c : Opd} {a : Opd} {b : Opd} : fpOf (.pick c a b) e σ σ' = .no := rfl
theorem fp_build {z : List AV} {ps : List (Nat × Nat × Opd)} : fpOf (.build z ps) e σ σ' = .no := rfl
theorem fp_bslice {z : List AV} {n : Nat} {ps : List (Nat × Nat × Opd)} : fpOf (.bslice z n ps) e σ σ' = .no := rfl
theorem fp_nilck {x : Opd} : fpOf (.nilck x) e σ σ' = .no := rfl
theorem fp_bin {op : BinOp} {x : Opd} {y : Opd} : fpOf (.bin op x y) e σ σ' = .no := rfl
theorem fp_shf {op : BinOp} {x : Opd} {y : Opd} : fpOf (.shf op x y) e σ σ' = .no := rfl
theorem fp_eq {k : EK} {x : Opd} {y : Opd} : fpOf (.eq k x y) e σ σ' = .no := rfl
theorem fp_ne {k : EK} {x : Opd} {y : Opd} : fpOf (.ne k x y) e σ σ' = .no := rfl
theorem fp_un {uo : UnOp} {x : Opd} : fpOf (.un uo x) e σ σ' = .no := rfl
theorem fp_conv {ik : IntKind} {x : Opd} : fpOf (.conv ik x) e σ σ' = .no := rfl
theorem fp_convs {x : Opd} : fpOf (.convs x) e σ σ' = .no := rfl
theorem fp_s2b {x : Opd} : fpOf (.s2b x) e σ σ' = .no := rfl
theorem fp_mki {ty : TypeId} {x : Opd} : fpOf (.mki ty x) e σ σ' = .no := rfl
theorem fp_mkf {fn : Fn} {l1 : List Opd} {l2 : List Opd} : fpOf (.mkf fn l1 l2) e σ σ' = .no := rfl
theorem fp_slstr {x : Opd} {lo : Option Opd} {hi : Option Opd} : fpOf (.slstr x lo hi) e σ σ' = .no := rfl
theorem fp_slsl {n : Nat} {x : Opd} {lo : Option Opd} {hi : Option Opd} {mx : Option Opd} : fpOf (.slsl n x lo hi mx) e σ σ' = .no := rfl
theorem fp_slarr {n : Nat} {m : Nat} {x : Opd} {lo : Option Opd} {hi : Option Opd} : fpOf (.slarr n m x lo hi) e σ σ' = .no := rfl
theorem fp_faddr {n : Nat} {x : Opd} : fpOf (.faddr n x) e σ σ' = .no := rfl
theorem fp_fld {ag : Bool} {n : Nat} {m : Nat} {x : Opd} : fpOf (.fld ag n m x) e σ σ' = .no := rfl
theorem fp_iaddra {n : Nat} {m : Nat} {x : Opd} {y : Opd} : fpOf (.iaddra n m x y) e σ σ' = .no := rfl
theorem fp_iaddrs {n : Nat} {x : Opd} {y : Opd} : fpOf (.iaddrs n x y) e σ σ' = .no := rfl
theorem fp_idxa {ag : Bool} {n : Nat} {m : Nat} {x : Opd} {y : Opd} : fpOf (.idxa ag n m x y) e σ σ' = .no := rfl
theorem fp_idxs {x : Opd} {y : Opd} : fpOf (.idxs x y) e σ σ' = .no := rfl
theorem fp_tai {x : Opd} {ok : Bool} {tl : List TypeId} : fpOf (.tai x ok tl) e σ σ' = .no := rfl
theorem fp_ta {zv : AV} {x : Opd} {ty : TypeId} {ok : Bool} : fpOf (.ta zv x ty ok) e σ σ' = .no := rfl
theorem fp_ext {x : Opd} {n : Nat} : fpOf (.ext x n) e σ σ' = .no := rfl
theorem fp_lenarr {n : Nat} : fpOf (.lenarr n) e σ σ' = .no := rfl
theorem fp_max {l1 : List Opd} : fpOf (.max l1) e σ σ' = .no := rfl
theorem fp_min {l1 : List Opd} : fpOf (.min l1) e σ σ' = .no := rfl
theorem fp_usd {x : Opd} : fpOf (.usd x) e σ σ' = .no := rfl
theorem fp_lookup {k : EK} {zv : AV} {x : Opd} {y : Opd} {ok : Bool} : fpOf (.lookup k zv x y ok) e σ σ' = .q := rfl
theorem fp_len {x : Opd} : fpOf (.len .sl x) e σ σ' = .no ∧ fpOf (.len .str x) e σ σ' = .no ∧ fpOf (.len .map x) e σ σ' = .q := ⟨rfl, rfl, rfl⟩
theorem fp_b2s {x : Opd} : fpOf (.b2s x) e σ σ' = .q := rfl
theorem fp_append {ty : TypeId} {n : Nat} {m : Nat} {x : Opd} {y : Opd} : fpOf (.append ty n m x y) e σ σ' = .app := rfl
theorem fp_appends {ty : TypeId} {x : Opd} {y : Opd} : fpOf (.appends ty x y) e σ σ' = .app := rfl
theorem fp_alloc {z : List AV} {tg : Option TypeId} : fpOf (.alloc z tg) e σ σ' = .all := rfl
theorem fp_box {x : Opd} {tg : Option TypeId} : fpOf (.box x tg) e σ σ' = .all := rfl
theorem fp_brow {ty : TypeId} {z : List AV} {n : Nat} {ps : List (Nat × Nat × Opd)} : fpOf (.brow ty z n ps) e σ σ' = .all := rfl
theorem fp_mkmap  : fpOf (.mkmap) e σ σ' = .all := rfl
theorem fp_mkslice {ty : TypeId} {z : List AV} {n : Nat} {x : Opd} {y : Opd} : fpOf (.mkslice ty z n x y) e σ σ' = .all := rfl
theorem fp_mput {k : EK} {x : Opd} {y : Opd} {c : Opd} : fpOf (.mput k x y c) e σ σ' = .all := rfl
theorem fp_copy {n : Nat} {x : Opd} {y : Opd} : fpOf (.copy n x y) e σ σ' = .all := rfl
theorem fp_clear {z : List AV} {x : Opd} : fpOf (.clear z x) e σ σ' = .all := rfl
theorem fp_ustr {ty : TypeId} {x : Opd} {y : Opd} : fpOf (.ustr ty x y) e σ σ' = .all := rfl
theorem fp_rng {x : Opd} : fpOf (.rng x) e σ σ' = .all := rfl
theorem fp_nxt {x : Opd} : fpOf (.nxt x) e σ σ' = .all := rfl
theorem fp_panic {x : Opd} : fpOf (.panic x) e σ σ' = .all := rfl
theorem fp_load {ag : Bool} {n : Nat} {x : Opd} : fpOf (.load ag n x) e σ σ' = fpL n (x.get e) := by
  simp only [fpOf, fpL]; cases x.get e <;> rfl
theorem fp_store {n : Nat} {x y : Opd} : fpOf (.store n x y) e σ σ' = fpS n (x.get e) := by
  simp only [fpOf, fpS]; cases x.get e <;> rfl
theorem fp_call {x : Opd} {l1 : List Opd} : fpOf (.call x l1) e σ σ' = fpC σ σ' := rfl
theorem fpC_same : fpC σ σ = .q := by simp [fpC]
theorem fpL_ptr {n id off ver i : Nat} : fpL n (.ptr id off) = .rd id off (Nat.max n 1) ∧ fpL n (.rptr id ver i off) = .q := ⟨rfl, rfl⟩
theorem fpL_eptr {n off : Nat} {cs : List AV} : fpL n (.eptr cs off) = .no := rfl
theorem fpL_glob {n g : Nat} : fpL n (.glob g) = .no := rfl
theorem fpS_ptr {n id off ver i : Nat} : fpS n (.ptr id off) = .wr id off n ∧ fpS n (.rptr id ver i off) = .app := ⟨rfl, rfl⟩
theorem Rv.fpL {v : AV} {sz : Nat} {els : List (List AV)} (h : Rv v sz els) {n j off : Nat} (hj : j < els.length) : Den.fpL n (elA v j off) = .no := by
  obtain ⟨h1, h2, h3⟩ := h ⟨[], none⟩
  cases v <;> simp only [] at h1
  · simp only [Den.elems] at h2; cases h2; simp at hj
  · rfl
  · simp [Den.elems] at h2
theorem Rv.fpLM {α : Type} {g : α → List AV} {l : List α} {v : AV} {sz : Nat} (h : Rv v sz (l.map g)) {n j off : Nat} (hj : j < l.length) : Den.fpL n (elA v j off) = .no := h.fpL (by simpa using hj)
theorem ok_no {x : FP} : FP.ok .no x = true := by cases x <;> rfl
theorem ok_no' {x : FP} : FP.ok x .no = true := by cases x <;> rfl
theorem ok_rd {a b c a' b' c' : Nat} : FP.ok (.rd a b c) (.rd a' b' c') = true := rfl
theorem ok_rq {a b c : Nat} : FP.ok (.rd a b c) .q = true := rfl
theorem ok_qr {a b c : Nat} : FP.ok .q (.rd a b c) = true := rfl
theorem ok_qq : FP.ok .q .q = true := rfl
theorem ok_ra {a b c : Nat} : FP.ok (.rd a b c) .app = true := rfl
theorem ok_ar {a b c : Nat} : FP.ok .app (.rd a b c) = true := rfl
theorem ok_rw {a b c a' b' c' : Nat} : FP.ok (.rd a b c) (.wr a' b' c') = (a != a' || b + c ≤ b' || b' + c' ≤ b) := rfl
theorem ok_wr {a b c a' b' c' : Nat} : FP.ok (.wr a b c) (.rd a' b' c') = (a != a' || b + c ≤ b' || b' + c' ≤ b) := rfl
end

def allF (fps : List FP) (x : FP) : List Nat → Bool
  | [] => true
  | j :: js => (fps.getD j .all).ok x && allF fps x js

theorem allF_eq {fps : List FP} {x : FP} : ∀ js : List Nat, js.all (fun j => (fps.getD j .all).ok x) = allF fps x js
  | [] => rfl
  | j :: js => by simp only [List.all_cons, allF, allF_eq js]

def kD (X : Ctx) (i : I) (σ₀ : AS) (fps : List FP) (js : List Nat) (os : List (Ins × List Nat)) (d : Option Nat) (e : Env) (ms : List Nat) (Q : Post) : AV → AS → Prop := fun v σ =>
  allF fps (fpOf i e σ₀ σ) js = true ∧ wpD X (fps ++ [fpOf i e σ₀ σ]) os (Fr.put ⟨e, ms⟩ d v) σ Q
def kF (fps : List FP) (i : I) (d : Option Nat) (js : List Nat) (os : List (Ins × List Nat)) (e : Env) (ms : List Nat) (Q : Post) : AV → AS → Prop := fun v σ => panicOk fps (⟨none, d, i⟩, js) os = true ∧ Q (.panic v) ⟨e, ms⟩ σ

theorem wpD_cons {X : Ctx} {σ : AS} {Q : Post} {e : Env} {ms : List Nat} {fps : List FP} {js : List Nat} {os : List (Ins × List Nat)} {d : Option Nat} {i : I} : wpD X fps ((⟨none, d, i⟩, js) :: os) ⟨e, ms⟩ σ Q = wpI X i e σ (kD X i σ fps js os d e ms Q) (kF fps i d js os e ms Q) := by
  apply propext
  simp only [wpD, wpI, runOpsD, wantedA, if_true, kD]
  cases hx : exec X (D X) i e σ with
  | none => simp [outK]
  | some o =>
    cases o with
    | ok v σ' =>
      simp only [outK, allF_eq]
      by_cases hc : allF fps (fpOf i e σ σ') js = true
      · rw [if_pos hc]; exact ⟨fun h => ⟨hc, h⟩, fun h => h.2⟩
      · simp [kD, hc]
    | panic v σ' =>
      simp only [outK, kF]
      by_cases hc : panicOk fps (⟨none, d, i⟩, js) os = true
      · rw [if_pos hc]
        constructor
        · rintro ⟨_, _, _, h, q⟩; cases h; exact ⟨hc, q⟩
        · exact fun q => ⟨_, _, _, rfl, q.2⟩
      · simp [hc]

section
variable {X : Ctx} {f : FuncId} {rd : Bool} {σ σ₀ : AS} {Q : Post} {e : Env} {ms : List Nat} {fps : List FP} {js : List Nat} {os : List (Ins × List Nat)} {i : I} {d : Nat} {v : AV}
theorem wD_nil : wpD X fps [] ⟨e, ms⟩ σ Q = Q .normal ⟨e, ms⟩ σ := propext (by simp only [wpD, runOpsD]; exact ex_some)
theorem wD_o : wpD X fps ((o d i, js) :: os) ⟨e, ms⟩ σ Q = wpI X i e σ (kD X i σ fps js os (some d) e ms Q) (kF fps i (some d) js os e ms Q) := wpD_cons
theorem wD_u : wpD X fps ((u i, js) :: os) ⟨e, ms⟩ σ Q = wpI X i e σ (kD X i σ fps js os none e ms Q) (kF fps i none js os e ms Q) := wpD_cons
theorem kD_at : kD X i σ₀ fps js os (some d) e ms Q v σ = (allF fps (fpOf i e σ₀ σ) js = true ∧ wpD X (fps ++ [fpOf i e σ₀ σ]) os ⟨e.set d v, ms⟩ σ Q) := rfl
theorem kD_at' : kD X i σ₀ fps js os none e ms Q v σ = (allF fps (fpOf i e σ₀ σ) js = true ∧ wpD X (fps ++ [fpOf i e σ₀ σ]) os ⟨e, ms⟩ σ Q) := rfl
theorem allF_nil {x : FP} : allF fps x [] = true := rfl
theorem allF_cons {x : FP} {j : Nat} : allF fps x (j :: js) = ((fps.getD j .all).ok x && allF fps x js) := rfl
theorem wp_dreg' {H : List AObj} {lo : Option Nat} : wp X f rd (.dreg os) ⟨e, ms⟩ ⟨H, lo⟩ Q = wpD X [] (slotOps H.length os) ⟨e, ms⟩ ⟨H ++ slotZs os, lo⟩ Q := wp_dreg
theorem getD_0 {x y : FP} {l : List FP} : (x :: l).getD 0 y = x := rfl
theorem getD_s {x y : FP} {l : List FP} {n : Nat} : (x :: l).getD (n + 1) y = l.getD n y := by simp
end

/-! New variables of a drawing region. -/
def newI : I → Option AObj
  | .alloc z tg => some (.box z tg)
  | _ => none
theorem nb_o {d : Nat} {i : I} : Ins.newBox (o d i) = newI i := by cases i <;> rfl
theorem nb_u {i : I} : Ins.newBox (u i) = newI i := by cases i <;> rfl
theorem nb_gt {t : Nat} {d : Option Nat} {i : I} : Ins.newBox (gt t d i) = newI i := by cases i <;> rfl
theorem nb_gf {t : Nat} {d : Option Nat} {i : I} : Ins.newBox (gf t d i) = newI i := by cases i <;> rfl
def slotC (n : Nat) (x : Ins) (l : List Nat) (os : List (Ins × List Nat)) : Option AObj → List (Ins × List Nat)
  | none => (x, l) :: slotOps n os
  | some _ => ({ x with i := .mov (.c (.ptr n 0)) }, l) :: slotOps (n + 1) os
def zC (os : List (Ins × List Nat)) : Option AObj → List AObj
  | none => slotZs os
  | some b => b :: slotZs os
theorem slotOps_nil {n : Nat} : slotOps n [] = [] := rfl
theorem slotOps_cons {n : Nat} {x : Ins} {l : List Nat} {os : List (Ins × List Nat)} : slotOps n ((x, l) :: os) = slotC n x l os x.newBox := by
  simp only [slotOps, slotIns]
  cases x.newBox <;> rfl
theorem slotC_none {n : Nat} {x : Ins} {l : List Nat} {os : List (Ins × List Nat)} : slotC n x l os none = (x, l) :: slotOps n os := rfl
theorem slotC_o {n d : Nat} {i : I} {l : List Nat} {os : List (Ins × List Nat)} {b : AObj} : slotC n (o d i) l os (some b) = (o d (.mov (.c (.ptr n 0))), l) :: slotOps (n + 1) os := rfl
theorem slotC_gt {n t : Nat} {d : Option Nat} {i : I} {l : List Nat} {os : List (Ins × List Nat)} {b : AObj} : slotC n (gt t d i) l os (some b) = (gt t d (.mov (.c (.ptr n 0))), l) :: slotOps (n + 1) os := rfl
theorem slotC_gf {n t : Nat} {d : Option Nat} {i : I} {l : List Nat} {os : List (Ins × List Nat)} {b : AObj} : slotC n (gf t d i) l os (some b) = (gf t d (.mov (.c (.ptr n 0))), l) :: slotOps (n + 1) os := rfl
theorem slotZs_nil : slotZs [] = [] := rfl
theorem slotZs_cons {x : Ins} {l : List Nat} {os : List (Ins × List Nat)} : slotZs ((x, l) :: os) = zC os x.newBox := by
  simp only [slotZs]
  cases x.newBox <;> rfl
theorem zC_none {os : List (Ins × List Nat)} : zC os none = slotZs os := rfl
theorem zC_some {os : List (Ins × List Nat)} {b : AObj} : zC os (some b) = b :: slotZs os := rfl
theorem nw_alloc {z : List AV} {tg : Option TypeId} : newI (.alloc z tg) = some (.box z tg) := rfl
theorem nw_mov {x0 : _} : newI (.mov x0) = none := rfl
theorem nw_pick {x0 : _} {x1 : _} {x2 : _} : newI (.pick x0 x1 x2) = none := rfl
theorem nw_box {x0 : _} {x1 : _} : newI (.box x0 x1) = none := rfl
theorem nw_build {x0 : _} {x1 : _} : newI (.build x0 x1) = none := rfl
theorem nw_bslice {x0 : _} {x1 : _} {x2 : _} : newI (.bslice x0 x1 x2) = none := rfl
theorem nw_brow {x0 : _} {x1 : _} {x2 : _} {x3 : _} : newI (.brow x0 x1 x2 x3) = none := rfl
theorem nw_load {x0 : _} {x1 : _} {x2 : _} : newI (.load x0 x1 x2) = none := rfl
theorem nw_store {x0 : _} {x1 : _} {x2 : _} : newI (.store x0 x1 x2) = none := rfl
theorem nw_nilck {x0 : _} : newI (.nilck x0) = none := rfl
theorem nw_bin {x0 : _} {x1 : _} {x2 : _} : newI (.bin x0 x1 x2) = none := rfl
theorem nw_shf {x0 : _} {x1 : _} {x2 : _} : newI (.shf x0 x1 x2) = none := rfl
theorem nw_eq {x0 : _} {x1 : _} {x2 : _} : newI (.eq x0 x1 x2) = none := rfl
theorem nw_ne {x0 : _} {x1 : _} {x2 : _} : newI (.ne x0 x1 x2) = none := rfl
theorem nw_un {x0 : _} {x1 : _} : newI (.un x0 x1) = none := rfl
theorem nw_conv {x0 : _} {x1 : _} : newI (.conv x0 x1) = none := rfl
theorem nw_convs {x0 : _} : newI (.convs x0) = none := rfl
theorem nw_s2b {x0 : _} : newI (.s2b x0) = none := rfl
theorem nw_b2s {x0 : _} : newI (.b2s x0) = none := rfl
theorem nw_mki {x0 : _} {x1 : _} : newI (.mki x0 x1) = none := rfl
theorem nw_mkf {x0 : _} {x1 : _} {x2 : _} : newI (.mkf x0 x1 x2) = none := rfl
theorem nw_mkmap : newI .mkmap = none := rfl
theorem nw_mkslice {x0 : _} {x1 : _} {x2 : _} {x3 : _} {x4 : _} : newI (.mkslice x0 x1 x2 x3 x4) = none := rfl
theorem nw_slstr {x0 : _} {x1 : _} {x2 : _} : newI (.slstr x0 x1 x2) = none := rfl
theorem nw_slsl {x0 : _} {x1 : _} {x2 : _} {x3 : _} {x4 : _} : newI (.slsl x0 x1 x2 x3 x4) = none := rfl
theorem nw_slarr {x0 : _} {x1 : _} {x2 : _} {x3 : _} {x4 : _} : newI (.slarr x0 x1 x2 x3 x4) = none := rfl
theorem nw_faddr {x0 : _} {x1 : _} : newI (.faddr x0 x1) = none := rfl
theorem nw_fld {x0 : _} {x1 : _} {x2 : _} {x3 : _} : newI (.fld x0 x1 x2 x3) = none := rfl
theorem nw_iaddra {x0 : _} {x1 : _} {x2 : _} {x3 : _} : newI (.iaddra x0 x1 x2 x3) = none := rfl
theorem nw_iaddrs {x0 : _} {x1 : _} {x2 : _} : newI (.iaddrs x0 x1 x2) = none := rfl
theorem nw_idxa {x0 : _} {x1 : _} {x2 : _} {x3 : _} {x4 : _} : newI (.idxa x0 x1 x2 x3 x4) = none := rfl
theorem nw_idxs {x0 : _} {x1 : _} : newI (.idxs x0 x1) = none := rfl
theorem nw_lookup {x0 : _} {x1 : _} {x2 : _} {x3 : _} {x4 : _} : newI (.lookup x0 x1 x2 x3 x4) = none := rfl
theorem nw_mput {x0 : _} {x1 : _} {x2 : _} {x3 : _} : newI (.mput x0 x1 x2 x3) = none := rfl
theorem nw_tai {x0 : _} {x1 : _} {x2 : _} : newI (.tai x0 x1 x2) = none := rfl
theorem nw_ta {x0 : _} {x1 : _} {x2 : _} {x3 : _} : newI (.ta x0 x1 x2 x3) = none := rfl
theorem nw_ext {x0 : _} {x1 : _} : newI (.ext x0 x1) = none := rfl
theorem nw_len {x0 : _} {x1 : _} : newI (.len x0 x1) = none := rfl
theorem nw_lenarr {x0 : _} : newI (.lenarr x0) = none := rfl
theorem nw_append {x0 : _} {x1 : _} {x2 : _} {x3 : _} {x4 : _} : newI (.append x0 x1 x2 x3 x4) = none := rfl
theorem nw_appends {x0 : _} {x1 : _} {x2 : _} : newI (.appends x0 x1 x2) = none := rfl
theorem nw_copy {x0 : _} {x1 : _} {x2 : _} : newI (.copy x0 x1 x2) = none := rfl
theorem nw_clear {x0 : _} {x1 : _} : newI (.clear x0 x1) = none := rfl
theorem nw_max {x0 : _} : newI (.max x0) = none := rfl
theorem nw_min {x0 : _} : newI (.min x0) = none := rfl
theorem nw_usd {x0 : _} : newI (.usd x0) = none := rfl
theorem nw_ustr {x0 : _} {x1 : _} {x2 : _} : newI (.ustr x0 x1 x2) = none := rfl
theorem nw_rng {x0 : _} : newI (.rng x0) = none := rfl
theorem nw_nxt {x0 : _} : newI (.nxt x0) = none := rfl
theorem nw_call {x0 : _} {x1 : _} : newI (.call x0 x1) = none := rfl
theorem nw_panic {x0 : _} : newI (.panic x0) = none := rfl
theorem N1 : type_of% @nb_o ∧ type_of% @nb_u ∧ type_of% @nb_gt ∧ type_of% @nb_gf ∧ type_of% @slotOps_nil ∧ type_of% @slotOps_cons ∧ type_of% @slotC_none ∧ type_of% @slotC_o ∧ type_of% @slotC_gt ∧ type_of% @slotC_gf ∧ type_of% @slotZs_nil ∧ type_of% @slotZs_cons ∧ type_of% @zC_none ∧ type_of% @zC_some ∧ type_of% @nw_alloc ∧ type_of% @nw_mov ∧ type_of% @nw_pick ∧ type_of% @nw_box ∧ type_of% @nw_build ∧ type_of% @nw_bslice ∧ type_of% @nw_brow ∧ type_of% @nw_load ∧ type_of% @nw_store ∧ type_of% @nw_nilck ∧ type_of% @nw_bin ∧ type_of% @nw_shf ∧ type_of% @nw_eq ∧ type_of% @nw_ne ∧ type_of% @nw_un ∧ type_of% @nw_conv ∧ type_of% @nw_convs ∧ type_of% @nw_s2b ∧ type_of% @nw_b2s ∧ type_of% @nw_mki ∧ type_of% @nw_mkf ∧ type_of% @nw_mkmap ∧ type_of% @nw_mkslice ∧ type_of% @nw_slstr ∧ type_of% @nw_slsl ∧ type_of% @nw_slarr ∧ type_of% @nw_faddr ∧ type_of% @nw_fld ∧ type_of% @nw_iaddra ∧ type_of% @nw_iaddrs ∧ type_of% @nw_idxa ∧ type_of% @nw_idxs ∧ type_of% @nw_lookup ∧ type_of% @nw_mput ∧ type_of% @nw_tai ∧ type_of% @nw_ta ∧ type_of% @nw_ext ∧ type_of% @nw_len ∧ type_of% @nw_lenarr ∧ type_of% @nw_append ∧ type_of% @nw_appends ∧ type_of% @nw_copy ∧ type_of% @nw_clear ∧ type_of% @nw_max ∧ type_of% @nw_min ∧ type_of% @nw_usd ∧ type_of% @nw_ustr ∧ type_of% @nw_rng ∧ type_of% @nw_nxt ∧ type_of% @nw_call ∧ type_of% @nw_panic :=
  ⟨@nb_o, @nb_u, @nb_gt, @nb_gf, @slotOps_nil, @slotOps_cons, @slotC_none, @slotC_o, @slotC_gt, @slotC_gf, @slotZs_nil, @slotZs_cons, @zC_none, @zC_some, @nw_alloc, @nw_mov, @nw_pick, @nw_box, @nw_build, @nw_bslice, @nw_brow, @nw_load, @nw_store, @nw_nilck, @nw_bin, @nw_shf, @nw_eq, @nw_ne, @nw_un, @nw_conv, @nw_convs, @nw_s2b, @nw_b2s, @nw_mki, @nw_mkf, @nw_mkmap, @nw_mkslice, @nw_slstr, @nw_slsl, @nw_slarr, @nw_faddr, @nw_fld, @nw_iaddra, @nw_iaddrs, @nw_idxa, @nw_idxs, @nw_lookup, @nw_mput, @nw_tai, @nw_ta, @nw_ext, @nw_len, @nw_lenarr, @nw_append, @nw_appends, @nw_copy, @nw_clear, @nw_max, @nw_min, @nw_usd, @nw_ustr, @nw_rng, @nw_nxt, @nw_call, @nw_panic⟩

theorem P1 : type_of% @wp_dreg' ∧ type_of% @wD_nil ∧ type_of% @wD_o ∧ type_of% @wD_u ∧ type_of% @kD_at ∧ type_of% @kD_at' ∧ type_of% @allF_nil ∧ type_of% @allF_cons ∧ type_of% @getD_0 ∧ type_of% @getD_s ∧ type_of% @fp_load ∧ type_of% @fp_store ∧ type_of% @fp_call ∧ type_of% @fpC_same ∧ type_of% @fpL_ptr ∧ type_of% @fpL_eptr ∧ type_of% @fpL_glob ∧ type_of% @fpS_ptr ∧ type_of% @ok_no ∧ type_of% @ok_no' ∧ type_of% @ok_rd ∧ type_of% @ok_rq ∧ type_of% @ok_qr ∧ type_of% @ok_qq ∧ type_of% @ok_ra ∧ type_of% @ok_ar ∧ type_of% @ok_rw ∧ type_of% @ok_wr ∧ type_of% @fp_mov ∧ type_of% @fp_pick ∧ type_of% @fp_build ∧ type_of% @fp_bslice ∧ type_of% @fp_nilck ∧ type_of% @fp_bin ∧ type_of% @fp_shf ∧ type_of% @fp_eq ∧ type_of% @fp_ne ∧ type_of% @fp_un ∧ type_of% @fp_conv ∧ type_of% @fp_convs ∧ type_of% @fp_s2b ∧ type_of% @fp_mki ∧ type_of% @fp_mkf ∧ type_of% @fp_slstr ∧ type_of% @fp_slsl ∧ type_of% @fp_slarr ∧ type_of% @fp_faddr ∧ type_of% @fp_fld ∧ type_of% @fp_iaddra ∧ type_of% @fp_iaddrs ∧ type_of% @fp_idxa ∧ type_of% @fp_idxs ∧ type_of% @fp_tai ∧ type_of% @fp_ta ∧ type_of% @fp_ext ∧ type_of% @fp_lenarr ∧ type_of% @fp_max ∧ type_of% @fp_min ∧ type_of% @fp_usd ∧ type_of% @fp_lookup ∧ type_of% @fp_len ∧ type_of% @fp_b2s ∧ type_of% @fp_append ∧ type_of% @fp_appends ∧ type_of% @fp_alloc ∧ type_of% @fp_box ∧ type_of% @fp_brow ∧ type_of% @fp_mkmap ∧ type_of% @fp_mkslice ∧ type_of% @fp_mput ∧ type_of% @fp_copy ∧ type_of% @fp_clear ∧ type_of% @fp_ustr ∧ type_of% @fp_rng ∧ type_of% @fp_nxt ∧ type_of% @fp_panic :=
  ⟨@wp_dreg', @wD_nil, @wD_o, @wD_u, @kD_at, @kD_at', @allF_nil, @allF_cons, @getD_0, @getD_s, @fp_load, @fp_store, @fp_call, @fpC_same, @fpL_ptr, @fpL_eptr, @fpL_glob, @fpS_ptr, @ok_no, @ok_no', @ok_rd, @ok_rq, @ok_qr, @ok_qq, @ok_ra, @ok_ar, @ok_rw, @ok_wr, @fp_mov, @fp_pick, @fp_build, @fp_bslice, @fp_nilck, @fp_bin, @fp_shf, @fp_eq, @fp_ne, @fp_un, @fp_conv, @fp_convs, @fp_s2b, @fp_mki, @fp_mkf, @fp_slstr, @fp_slsl, @fp_slarr, @fp_faddr, @fp_fld, @fp_iaddra, @fp_iaddrs, @fp_idxa, @fp_idxs, @fp_tai, @fp_ta, @fp_ext, @fp_lenarr, @fp_max, @fp_min, @fp_usd, @fp_lookup, @fp_len, @fp_b2s, @fp_append, @fp_appends, @fp_alloc, @fp_box, @fp_brow, @fp_mkmap, @fp_mkslice, @fp_mput, @fp_copy, @fp_clear, @fp_ustr, @fp_rng, @fp_nxt, @fp_panic⟩

theorem D_clo {X : Ctx} {f : FuncId} (pf : PF) {args cap : List AV} {H : List AObj} {lo : Option Nat} {cr : CRes} (hp : X.prim f = none) (hc : X.code f = some pf) (hl : Nat.ble (args ++ cap).length pf.ntmps = true)
    (h : ∀ n, H.length = n → wp X f false pf.body ⟨envOf (args ++ cap), []⟩ ⟨H, none⟩ (retK X n lo pf.results (· = cr))) : D X (.fn (.func f) [] cap) args ⟨H, lo⟩ = some cr := by
  have hl' := Nat.le_of_ble_eq_true hl
  refine D_ret hp hc (by simpa using hl') ?_
  simpa using h _ rfl

/-- A loop over numbers: what holds at its head. -/
theorem wp_for {X : Ctx} {f : FuncId} {rd : Bool} {σ : AS} {Q : Post} {e : Env} {b : PC} (m : Nat) (I : Nat → Env → List AObj → Prop) {H : List AObj} (k : Nat) (hk : k ≤ m) (h0 : I k e H)
    (hb : ∀ k, k ≤ m → ∀ e H, I k e H → wp X f rd b ⟨e, []⟩ ⟨H, none⟩ (fun ex fr' σ' => match ex with | .normal => k < m ∧ ∃ e' H', fr' = ⟨e', []⟩ ∧ σ' = ⟨H', none⟩ ∧ I (k + 1) e' H' | ex => Q ex fr' σ')) : wp X f rd (.loop b) ⟨e, []⟩ ⟨H, none⟩ Q := by
  refine wp_loop (S := Nat) (fun k fr σ => k ≤ m ∧ ∃ e H, fr = ⟨e, []⟩ ∧ σ = ⟨H, none⟩ ∧ I k e H) (fun k => m - k) k ⟨hk, e, H, rfl, rfl, h0⟩ ?_
  rintro k fr σ ⟨hk, e, H, rfl, rfl, hi⟩
  refine wp_mono (hb k hk e H hi) ?_
  intro ex fr σ h
  cases ex with
  | normal =>
    obtain ⟨h1, e', H', h2, h3, h4⟩ := h
    exact ⟨k + 1, by omega, by omega, e', H', h2, h3, h4⟩
  | _ => exact h

def forK (k m : Nat) (I : Nat → Env → List AObj → Prop) (Q : Post) : Post := fun ex fr' σ' => match ex with | .normal => k < m ∧ ∃ e' H', fr' = ⟨e', []⟩ ∧ σ' = ⟨H', none⟩ ∧ I (k + 1) e' H' | ex => Q ex fr' σ'
theorem forK_normal {k m : Nat} {I : Nat → Env → List AObj → Prop} {Q : Post} {e : Env} {H : List AObj} : forK k m I Q .normal ⟨e, []⟩ ⟨H, none⟩ = (k < m ∧ I (k + 1) e H) := by
  simp only [forK]
  exact propext ⟨fun ⟨h, _, _, h1, h2, h3⟩ => by cases h1; cases h2; exact ⟨h, h3⟩, fun ⟨h, h1⟩ => ⟨h, _, _, rfl, rfl, h1⟩⟩
theorem forK_exit {k m i : Nat} {I : Nat → Env → List AObj → Prop} {Q : Post} {fr : Fr} {σ : AS} : forK k m I Q (.exit i) fr σ = Q (.exit i) fr σ := rfl
theorem forK_ret {k m : Nat} {I : Nat → Env → List AObj → Prop} {Q : Post} {fr : Fr} {σ : AS} : forK k m I Q .ret fr σ = Q .ret fr σ := rfl
theorem forK_panic {k m : Nat} {v : AV} {I : Nat → Env → List AObj → Prop} {Q : Post} {fr : Fr} {σ : AS} : forK k m I Q (.panic v) fr σ = Q (.panic v) fr σ := rfl

/-- The same, to be walked by rewriting. -/
theorem wp_loopN {X : Ctx} {f : FuncId} {rd : Bool} {Q : Post} {e : Env} {b : PC} (m : Nat) (I : Nat → Env → List AObj → Prop) {H : List AObj} (k : Nat) (hk : k ≤ m) (h0 : I k e H)
    (hb : ∀ k, k ≤ m → ∀ e H, I k e H → ∀ n, H.length = n → wp X f rd b ⟨e, []⟩ ⟨H, none⟩ (forK k m I Q)) : wp X f rd (.loop b) ⟨e, []⟩ ⟨H, none⟩ Q :=
  wp_for (σ := ⟨H, none⟩) m I k hk h0 fun k hk e H hi => hb k hk e H hi _ rfl

/-- A loop whose rounds may store younger things into older ones. -/
def forL (k m : Nat) (I : Nat → Env → List AObj → Option Nat → Prop) (Q : Post) : Post := fun ex fr' σ' => match ex with | .normal => k < m ∧ fr'.marks = [] ∧ I (k + 1) fr'.env σ'.heap σ'.lo | ex => Q ex fr' σ'
theorem forL_normal {k m : Nat} {I : Nat → Env → List AObj → Option Nat → Prop} {Q : Post} {e : Env} {H : List AObj} {lo : Option Nat} : forL k m I Q .normal ⟨e, []⟩ ⟨H, lo⟩ = (k < m ∧ I (k + 1) e H lo) := by
  simp [forL]
theorem forL_exit {k m i : Nat} {I : Nat → Env → List AObj → Option Nat → Prop} {Q : Post} {fr : Fr} {σ : AS} : forL k m I Q (.exit i) fr σ = Q (.exit i) fr σ := rfl
theorem forL_ret {k m : Nat} {I : Nat → Env → List AObj → Option Nat → Prop} {Q : Post} {fr : Fr} {σ : AS} : forL k m I Q .ret fr σ = Q .ret fr σ := rfl
theorem wp_loopL {X : Ctx} {f : FuncId} {rd : Bool} {Q : Post} {e : Env} {b : PC} (m : Nat) (I : Nat → Env → List AObj → Option Nat → Prop) {H : List AObj} {lo : Option Nat} (k : Nat) (hk : k ≤ m) (h0 : I k e H lo)
    (hb : ∀ k, k ≤ m → ∀ e H lo, I k e H lo → ∀ n, H.length = n → wp X f rd b ⟨e, []⟩ ⟨H, lo⟩ (forL k m I Q)) : wp X f rd (.loop b) ⟨e, []⟩ ⟨H, lo⟩ Q := by
  refine wp_loop (S := Nat) (fun k fr σ => k ≤ m ∧ fr.marks = [] ∧ I k fr.env σ.heap σ.lo) (fun k => m - k) k ⟨hk, rfl, h0⟩ ?_
  rintro k ⟨e, ms⟩ ⟨H, lo⟩ ⟨hk, hms, hi⟩
  simp only at hms hi
  subst hms
  refine wp_mono (hb k hk e H lo hi _ rfl) ?_
  intro ex fr σ h
  cases ex with
  | normal =>
    obtain ⟨h1, h2, h3⟩ := h
    exact ⟨k + 1, by omega, by omega, h2, h3⟩
  | _ => exact h

/-- A loop with a measure. -/
def forM {S : Type} (I : S → Env → List AObj → Prop) (μ : S → Nat) (s : S) (Q : Post) : Post := fun ex fr' σ' => match ex with | .normal => fr'.marks = [] ∧ σ'.lo = none ∧ ∃ s', μ s' < μ s ∧ I s' fr'.env σ'.heap | ex => Q ex fr' σ'
section
variable {S : Type} {I : S → Env → List AObj → Prop} {μ : S → Nat} {s : S} {Q : Post}
theorem forM_normal {e : Env} {H : List AObj} : forM I μ s Q .normal ⟨e, []⟩ ⟨H, none⟩ = ∃ s', μ s' < μ s ∧ I s' e H := by simp [forM]
theorem forM_exit {i : Nat} {fr : Fr} {σ : AS} : forM I μ s Q (.exit i) fr σ = Q (.exit i) fr σ := rfl
theorem forM_ret {fr : Fr} {σ : AS} : forM I μ s Q .ret fr σ = Q .ret fr σ := rfl
theorem wp_loopM {X : Ctx} {f : FuncId} {rd : Bool} {e : Env} {b : PC} (I : S → Env → List AObj → Prop) (μ : S → Nat) {H : List AObj} (s : S) (h0 : I s e H)
    (hb : ∀ s e H, I s e H → ∀ n, H.length = n → wp X f rd b ⟨e, []⟩ ⟨H, none⟩ (forM I μ s Q)) : wp X f rd (.loop b) ⟨e, []⟩ ⟨H, none⟩ Q := by
  refine wp_loop (S := S) (fun s fr σ => fr.marks = [] ∧ σ.lo = none ∧ I s fr.env σ.heap) μ s ⟨rfl, rfl, h0⟩ ?_
  rintro s ⟨e, ms⟩ ⟨H, lo⟩ ⟨hms, hlo, hi⟩
  simp only at hms hlo hi
  subst hms hlo
  refine wp_mono (hb s e H hi _ rfl) ?_
  intro ex fr σ h
  cases ex with
  | normal =>
    obtain ⟨h1, h2, s', h3, h4⟩ := h
    exact ⟨s', h3, h1, h2, h4⟩
  | _ => exact h
end

def loopK (X : Ctx) (f : FuncId) (rd : Bool) (b : PC) (Q : Post) : Post
  | .normal, fr, σ => wp X f rd (.loop b) fr σ Q
  | ex, fr, σ => Q ex fr σ

/-- A loop, once unrolled. -/
theorem wp_unroll {X : Ctx} {f : FuncId} {rd : Bool} {b : PC} {fr : Fr} {σ : AS} {Q : Post} : wp X f rd (.loop b) fr σ Q = wp X f rd b fr σ (loopK X f rd b Q) := by
  apply propext
  simp only [wp, runCode]
  constructor
  · rintro ⟨ex, fr', σ', h, hq⟩
    rw [Lw_eq] at h
    split at h
    · rename_i fr₁ σ₁ hx
      exact ⟨_, _, _, hx, ex, fr', σ', by simp only [runCode]; exact h, hq⟩
    · rename_i hx
      refine ⟨_, _, _, h, ?_⟩
      cases ex with
      | normal => exact absurd h (hx _ _)
      | _ => exact hq
  · rintro ⟨ex, fr', σ', h, hq⟩
    rw [Lw_eq, h]
    cases ex with
    | normal =>
      obtain ⟨ex, fr₂, σ₂, h2, hq⟩ := hq
      simp only [runCode] at h2
      exact ⟨_, _, _, h2, hq⟩
    | exit _ => exact ⟨_, _, _, rfl, hq⟩
    | ret => exact ⟨_, _, _, rfl, hq⟩
    | panic _ => exact ⟨_, _, _, rfl, hq⟩
section
variable {X : Ctx} {f : FuncId} {rd : Bool} {b : PC} {fr : Fr} {σ : AS} {Q : Post} {i : Nat} {v : AV}
theorem loopK_normal : loopK X f rd b Q .normal fr σ = wp X f rd (.loop b) fr σ Q := rfl
theorem loopK_exit : loopK X f rd b Q (.exit i) fr σ = Q (.exit i) fr σ := rfl
theorem loopK_ret : loopK X f rd b Q .ret fr σ = Q .ret fr σ := rfl
theorem loopK_panic : loopK X f rd b Q (.panic v) fr σ = Q (.panic v) fr σ := rfl
end

theorem keepE_nil {e e0 : Env} : keepE e [] e0 = e0 := rfl
theorem keepE_cons {e e0 : Env} {t : Nat} {ts : List Nat} : keepE e (t :: ts) e0 = (keepE e ts e0).set t (e t) := rfl
theorem not_dec {p : Prop} [Decidable p] : (!decide p) = decide (¬ p) := by simp

theorem dsts_nil : dsts [] = [] := rfl
theorem dsts_o {dd : Nat} {i : I} {os : List Ins} : dsts (o dd i :: os) = dd :: dsts os := rfl
theorem dsts_u {i : I} {os : List Ins} : dsts (u i :: os) = dsts os := rfl
theorem dsts_gt {t dd : Nat} {i : I} {os : List Ins} : dsts (gt t (some dd) i :: os) = dd :: dsts os := rfl
theorem dsts_gf {t dd : Nat} {i : I} {os : List Ins} : dsts (gf t (some dd) i :: os) = dd :: dsts os := rfl
theorem dsts_gt' {t : Nat} {i : I} {os : List Ins} : dsts (gt t none i :: os) = dsts os := rfl
theorem dsts_gf' {t : Nat} {i : I} {os : List Ins} : dsts (gf t none i :: os) = dsts os := rfl
theorem dsts_i {dd : Nat} {i : I} {os : List Ins} : dsts (⟨none, some dd, i⟩ :: os) = dd :: dsts os := rfl
theorem dsts_i' {i : I} {os : List Ins} : dsts (⟨none, none, i⟩ :: os) = dsts os := rfl
theorem inW_nil {t : Nat} : inW [] t = false := rfl
theorem inW_cons {a t : Nat} {as : List Nat} : inW (a :: as) t = (a == t || inW as t) := rfl
theorem ff : (false = true) = False := by simp
theorem tt : (true = true) = True := by simp

theorem C1 : type_of% @cutP_normal ∧ type_of% @forL_normal ∧ type_of% @forL_exit ∧ type_of% @forL_ret ∧ type_of% @loopK_normal ∧ type_of% @loopK_exit ∧ type_of% @loopK_ret ∧ type_of% @loopK_panic ∧ type_of% @forK_normal ∧ type_of% @forK_exit ∧ type_of% @forK_ret ∧ type_of% @forK_panic ∧ type_of% @selE_true ∧ type_of% @selE_false ∧ type_of% @Bool.true_or ∧ type_of% @Bool.false_or ∧ type_of% @Bool.and_true ∧ type_of% @Bool.true_and ∧ type_of% @keepE_nil ∧ type_of% @keepE_cons ∧ type_of% @not_dec ∧ type_of% @dsts_nil ∧ type_of% @dsts_o ∧ type_of% @dsts_u ∧ type_of% @dsts_gt ∧ type_of% @dsts_gf ∧ type_of% @dsts_gt' ∧ type_of% @dsts_gf' ∧ type_of% @dsts_i ∧ type_of% @dsts_i' ∧ type_of% @inW_nil ∧ type_of% @inW_cons ∧ type_of% @over_at ∧ type_of% @ff ∧ type_of% @tt ∧ type_of% @cutK_normal :=
  ⟨@cutP_normal, @forL_normal, @forL_exit, @forL_ret, @loopK_normal, @loopK_exit, @loopK_ret, @loopK_panic, @forK_normal, @forK_exit, @forK_ret, @forK_panic, @selE_true, @selE_false, @Bool.true_or, @Bool.false_or, @Bool.and_true, @Bool.true_and, @keepE_nil, @keepE_cons, @not_dec, @dsts_nil, @dsts_o, @dsts_u, @dsts_gt, @dsts_gf, @dsts_gt', @dsts_gf', @dsts_i, @dsts_i', @inW_nil, @inW_cons, @over_at, @ff, @tt, @cutK_normal⟩

end Go.Den

/- Den: slices that a function has made itself. -/
namespace Go.Den
open Go

/-- A slice of this function's own (its row lies at N or behind): what it holds. -/
def Own (N : Nat) (H : List AObj) (v : AV) (sz : Nat) (ty : TypeId) (els : List (List AV)) : Prop :=
  (∀ el ∈ els, el.length = sz) ∧ ((v = .nils ∧ els = []) ∨ ∃ id ver, N ≤ id ∧ v = .ref id ver sz 0 els.length false ∧ H[id]? = some (.row ver sz ty els))

def frz (v : AV) (els : List (List AV)) : AV := match v with
  | .nils => .nils
  | _ => .sl els false

section
variable {N : Nat} {H H' : List AObj} {v : AV} {sz bytes : Nat} {ty : TypeId} {els ys : List (List AV)} {lo : Option Nat}

theorem Own.nils : Own N H .nils sz ty [] := ⟨by simp, .inl ⟨rfl, rfl⟩⟩

theorem Own.mono (h : Own N H v sz ty els) (hp : H <+: H') : Own N H' v sz ty els := by
  obtain ⟨h1, h2⟩ := h
  refine ⟨h1, ?_⟩
  rcases h2 with h2 | ⟨id, ver, hn, hv, hr⟩
  · exact .inl h2
  · refine .inr ⟨id, ver, hn, hv, ?_⟩
    obtain ⟨L, rfl⟩ := hp
    rw [List.getElem?_append_left (List.getElem?_eq_some_iff.1 hr).1]; exact hr

theorem Own.ext {L : List AObj} (h : Own N H v sz ty els) : Own N (H ++ L) v sz ty els := h.mono (List.prefix_append _ _)

theorem Own.rd (h : Own N H v sz ty els) : Rd ⟨H, lo⟩ v sz els := by
  obtain ⟨h1, h2⟩ := h
  rcases h2 with ⟨rfl, rfl⟩ | ⟨id, ver, hn, rfl, hr⟩
  · exact .nils
  · refine ⟨trivial, ?_, h1⟩
    simp only [elems, hr, true_and]
    rw [if_pos (by omega)]
    simp

theorem prefix_set {H0 : List AObj} {id : Nat} {o : AObj} (hp : H0 <+: H) (hi : H0.length ≤ id) : H0 <+: H.set id o := by
  obtain ⟨L, rfl⟩ := hp
  rw [List.set_append_right _ _ hi]
  exact List.prefix_append _ _

theorem Own.append {H0 : List AObj} (h : Own N H v sz ty els) (hp : H0 <+: H) (hN : H0.length = N) (hz : 0 < sz) (hy : ∀ el ∈ ys, el.length = sz) (hr : refsLL ys = 0) (hb : (els.length + ys.length) * bytes ≤ room) :
    ∃ v' H', appendA ⟨H, lo⟩ ty sz bytes v ys = some (v', ⟨H', lo⟩) ∧ Own N H' v' sz ty (els ++ ys) ∧ H0 <+: H' ∧ H.length ≤ H'.length ∧ (∀ id, id < N → H'[id]? = H[id]?) := by
  have hc : 0 < sz ∧ ys.all (fun el => el.length == sz) = true := ⟨hz, by simpa using hy⟩
  obtain ⟨h1, h2⟩ := h
  have h3 : ∀ el ∈ els ++ ys, el.length = sz := by
    intro el hm; rcases List.mem_append.1 hm with hm | hm
    · exact h1 _ hm
    · exact hy _ hm
  by_cases he : ys.length = 0
  · have he' : ys = [] := List.length_eq_zero_iff.1 he
    subst he'
    refine ⟨v, H, ?_, by simpa using ⟨h1, h2⟩, hp, Nat.le_refl _, fun _ _ => rfl⟩
    unfold appendA
    rw [if_pos hc]
    rcases h2 with ⟨rfl, rfl⟩ | ⟨id, ver, hn, rfl, hr'⟩
    · simp
    · simp only [hr']
      rw [if_pos ⟨trivial, trivial, trivial, trivial, by omega, by simpa using hb⟩]
      simp
  rcases h2 with ⟨rfl, rfl⟩ | ⟨id, ver, hn, rfl, hr'⟩
  · refine ⟨.ref H.length 0 sz 0 ys.length false, H ++ [.row 0 sz ty ys], ?_, ⟨by simpa using hy, .inr ⟨H.length, 0, ?_, by simp, by simp⟩⟩, hp.trans (List.prefix_append _ _), by simp, fun id hid => ?_⟩
    · unfold appendA
      rw [if_pos hc]
      simp only [if_neg he]
      rw [if_pos (by simpa using hb)]
      rfl
    · rw [← hN]; exact hp.length_le
    · rw [List.getElem?_append_left (by have := hp.length_le; omega)]
  · have hlt := (List.getElem?_eq_some_iff.1 hr').1
    refine ⟨.ref id (ver + 1) sz 0 (els.length + ys.length) false, H.set id (.row (ver + 1) sz ty (els ++ ys)), ?_, ⟨h3, .inr ⟨id, ver + 1, hn, by simp, by simp [hlt]⟩⟩, prefix_set hp (by omega), by simp, fun j hj => ?_⟩
    · unfold appendA
      rw [if_pos hc]
      simp only [hr']
      rw [if_pos ⟨trivial, trivial, trivial, trivial, by omega, hb⟩, if_neg he]
      simp [AS.set, hr]
    · rw [List.getElem?_set_ne (by omega)]

theorem okP_append {K : AV → AS → Prop} {H0 : List AObj} (h : Own N H v sz ty els) (hp : H0 <+: H) (hN : H0.length = N) (hz : 0 < sz) (hy : ∀ el ∈ ys, el.length = sz) (hr : refsLL ys = 0) (hb : (els.length + ys.length) * bytes ≤ room)
    (hK : ∀ v' H', Own N H' v' sz ty (els ++ ys) → H0 <+: H' → K v' ⟨H', lo⟩) : okP (appendA ⟨H, lo⟩ ty sz bytes v ys) K := by
  obtain ⟨v', H', h1, h2, h3, _⟩ := h.append hp hN hz hy hr hb
  rw [h1]; exact hK v' H' h2 h3

/-- What Own.append leaves as it was: boxes. -/
theorem Own.append2 (h : Own N H v sz ty els) (hN : N ≤ H.length) (hz : 0 < sz) (hy : ∀ el ∈ ys, el.length = sz) (hr : refsLL ys = 0) (hb : (els.length + ys.length) * bytes ≤ room) :
    ∃ v' H', appendA ⟨H, lo⟩ ty sz bytes v ys = some (v', ⟨H', lo⟩) ∧ Own N H' v' sz ty (els ++ ys) ∧ H.length ≤ H'.length ∧ (∀ id, id < N → H'[id]? = H[id]?) ∧ (∀ (id : Nat) cs tg, H[id]? = some (.box cs tg) → H'[id]? = some (.box cs tg)) := by
  have hp : H.take N <+: H := List.take_prefix _ _
  obtain ⟨v', H', h1, h2, h3, h4, h5⟩ := h.append hp (by rw [List.length_take]; omega) hz hy hr hb
  refine ⟨v', H', h1, h2, h4, h5, fun id cs tg hc => ?_⟩
  have hid := (List.getElem?_eq_some_iff.1 hc).1
  unfold appendA at h1
  have hc' : 0 < sz ∧ ys.all (fun el => el.length == sz) = true := ⟨hz, by simpa using hy⟩
  rw [if_pos hc'] at h1
  rcases h.2 with ⟨rfl, rfl⟩ | ⟨j, ver, hn, rfl, hr'⟩
  · simp only at h1
    split at h1
    · simp only [Option.some.injEq, Prod.mk.injEq, AS.mk.injEq] at h1; rw [← h1.2.1]; exact hc
    · split at h1
      · simp only [AS.push, Option.some.injEq, Prod.mk.injEq, AS.mk.injEq] at h1
        rw [← h1.2.1, List.getElem?_append_left hid]; exact hc
      · cases h1
  · simp only [hr'] at h1
    split at h1
    · split at h1
      · simp only [Option.some.injEq, Prod.mk.injEq, AS.mk.injEq] at h1; rw [← h1.2.1]; exact hc
      · simp only [Bool.false_eq_true, if_false, AS.set, Option.some.injEq, Prod.mk.injEq, AS.mk.injEq] at h1
        rw [← h1.2.1]
        have hne : j ≠ id := by rintro rfl; rw [hr'] at hc; cases hc
        rw [List.getElem?_set_ne hne]; exact hc
    · cases h1

/-- What Own.append leaves as it was: whatever is no row. -/
theorem Own.append3 (h : Own N H v sz ty els) (hN : N ≤ H.length) (hz : 0 < sz) (hy : ∀ el ∈ ys, el.length = sz) (hr : refsLL ys = 0) (hb : (els.length + ys.length) * bytes ≤ room) :
    ∃ v' H', appendA ⟨H, lo⟩ ty sz bytes v ys = some (v', ⟨H', lo⟩) ∧ Own N H' v' sz ty (els ++ ys) ∧ H.length ≤ H'.length ∧ (∀ id, id < N → H'[id]? = H[id]?) ∧ (∀ (id : Nat) o, (∀ a d, o ≠ .row a sz ty d) → H[id]? = some o → H'[id]? = some o) := by
  have hp : H.take N <+: H := List.take_prefix _ _
  obtain ⟨v', H', h1, h2, h3, h4, h5⟩ := h.append hp (by rw [List.length_take]; omega) hz hy hr hb
  refine ⟨v', H', h1, h2, h4, h5, fun id o hno hc => ?_⟩
  have hid := (List.getElem?_eq_some_iff.1 hc).1
  unfold appendA at h1
  have hc' : 0 < sz ∧ ys.all (fun el => el.length == sz) = true := ⟨hz, by simpa using hy⟩
  rw [if_pos hc'] at h1
  rcases h.2 with ⟨rfl, rfl⟩ | ⟨j, ver, hn, rfl, hr'⟩
  · simp only at h1
    split at h1
    · simp only [Option.some.injEq, Prod.mk.injEq, AS.mk.injEq] at h1; rw [← h1.2.1]; exact hc
    · split at h1
      · simp only [AS.push, Option.some.injEq, Prod.mk.injEq, AS.mk.injEq] at h1
        rw [← h1.2.1, List.getElem?_append_left hid]; exact hc
      · cases h1
  · simp only [hr'] at h1
    split at h1
    · split at h1
      · simp only [Option.some.injEq, Prod.mk.injEq, AS.mk.injEq] at h1; rw [← h1.2.1]; exact hc
      · simp only [Bool.false_eq_true, if_false, AS.set, Option.some.injEq, Prod.mk.injEq, AS.mk.injEq] at h1
        rw [← h1.2.1]
        have hne : j ≠ id := by rintro rfl; rw [hr'] at hc; cases hc; exact hno _ _ rfl
        rw [List.getElem?_set_ne hne]; exact hc
    · cases h1

theorem okP_append3 {K : AV → AS → Prop} {H0 : List AObj} (h : Own N H v sz ty els) (hp : H0 <+: H) (hN : H0.length = N) (hz : 0 < sz) (hy : ∀ el ∈ ys, el.length = sz) (hr : refsLL ys = 0) (hb : (els.length + ys.length) * bytes ≤ room)
    (hK : ∀ v' H', Own N H' v' sz ty (els ++ ys) → H0 <+: H' → H.length ≤ H'.length → (∀ (id : Nat) o, (∀ a d, o ≠ .row a sz ty d) → H[id]? = some o → H'[id]? = some o) → K v' ⟨H', lo⟩) : okP (appendA ⟨H, lo⟩ ty sz bytes v ys) K := by
  obtain ⟨v', H', h1, h2, h3, h4, h5⟩ := h.append3 (by rw [← hN]; exact hp.length_le) hz hy hr hb
  obtain ⟨v2, H2, g1, _, g3, _⟩ := h.append hp hN hz hy hr hb
  rw [h1] at g1
  cases g1
  rw [h1]; exact hK v' H' h2 g3 h3 h5

theorem freeze_tup {σ : AS} {n k : Nat} {vs : List AV} : freeze σ n (k + 1) (.tup vs) = if (AV.tup vs).refs ≤ n then some (.tup vs) else match freezeL σ n k vs with | some cs' => some (.tup cs') | none => none := by
  rw [freeze]
  split
  · rfl
  · cases freezeL σ n k vs <;> rfl

theorem freezeL_low {σ : AS} {n k : Nat} : ∀ l : List AV, refsL l ≤ n → freezeL σ n (k + 2) l = some l
  | [], _ => by rw [freezeL]
  | b :: bs, hl => by
    simp only [refsL] at hl
    rw [freezeL, freeze_low (by omega)]
    simp only
    rw [freezeL_low bs (by omega)]

theorem freezeLL_low {σ : AS} {n k : Nat} : ∀ els : List (List AV), refsLL els ≤ n → freezeLL σ n (k + 3) els = some els
  | [], _ => by rw [freezeLL]
  | a :: as, h => by
    simp only [refsLL] at h
    rw [freezeLL, freezeL_low a (by omega)]
    simp only
    rw [freezeLL_low as (by omega)]

theorem Own.freeze {k : Nat} (h : Own N H v sz ty els) (hr : refsLL els ≤ N) : Den.freeze ⟨H, lo⟩ N (k + 4) v = some (frz v els) := by
  obtain ⟨h1, h2⟩ := h
  rcases h2 with ⟨rfl, rfl⟩ | ⟨id, ver, hn, rfl, hr'⟩
  · exact freeze_low (Nat.zero_le _)
  · have hn' : ¬ (AV.ref id ver sz 0 els.length false).refs ≤ N := by simp only [AV.refs]; omega
    rw [Den.freeze, if_neg hn']
    simp only [hr']
    rw [if_pos ⟨trivial, trivial, by omega⟩]
    simp only [List.drop_zero, List.take_length]
    rw [freezeLL_low els hr]
    rfl

theorem Own.finish1 (h : Own N H v sz ty els) (hr : refsLL els ≤ N) : finish N lo v ⟨H, none⟩ = (frz v els, ⟨H.take N, lo⟩) :=
  finish_eq rfl (h.freeze hr)

theorem Own.finish2 {b : AV} (h : Own N H v sz ty els) (hr : refsLL els ≤ N) (hb : b.refs ≤ N) : finish N lo (.tup [v, b]) ⟨H, none⟩ = (.tup [frz v els, b], ⟨H.take N, lo⟩) := by
  refine finish_eq rfl ?_
  rw [freeze_tup]
  have e1 : freezeL ⟨H, none⟩ N 11 [v, b] = some [frz v els, b] := by
    rw [freezeL, h.freeze hr]; simp only
    rw [freezeL, freeze_low hb]; simp only
    rw [freezeL]
  rw [e1]
  split
  · rename_i hle
    have hv : frz v els = v := by
      obtain ⟨h1, h2⟩ := h
      rcases h2 with ⟨rfl, rfl⟩ | ⟨id, ver, hn, rfl, hr'⟩
      · rfl
      · simp only [AV.refs, refsL] at hle; omega
    rw [hv]
  · rfl

theorem Own.finish3 {b c : AV} (h : Own N H v sz ty els) (hr : refsLL els ≤ N) (hb : b.refs ≤ N) (hc : c.refs ≤ N) : finish N lo (.tup [v, b, c]) ⟨H, none⟩ = (.tup [frz v els, b, c], ⟨H.take N, lo⟩) := by
  refine finish_eq rfl ?_
  rw [freeze_tup]
  have e1 : freezeL ⟨H, none⟩ N 11 [v, b, c] = some [frz v els, b, c] := by
    rw [freezeL, h.freeze hr]; simp only
    rw [freezeL, freeze_low hb]; simp only
    rw [freezeL, freeze_low hc]; simp only
    rw [freezeL]
  rw [e1]
  split
  · rename_i hle
    have hv : frz v els = v := by
      obtain ⟨h1, h2⟩ := h
      rcases h2 with ⟨rfl, rfl⟩ | ⟨id, ver, hn, rfl, hr'⟩
      · rfl
      · simp only [AV.refs, refsL] at hle; omega
    rw [hv]
  · rfl

theorem Own.frz_rv (h : Own N H v sz ty els) : Rv (frz v els) sz els := by
  obtain ⟨h1, h2⟩ := h
  rcases h2 with ⟨rfl, rfl⟩ | ⟨id, ver, hn, rfl, hr'⟩
  · exact .nils
  · exact .sl h1

theorem refsLL_map {α : Type} {g : α → List AV} (hg : ∀ x, refsL (g x) = 0) : ∀ l : List α, refsLL (l.map g) = 0
  | [] => rfl
  | x :: xs => by simp only [List.map_cons, refsLL, hg, refsLL_map hg xs]; rfl

theorem elems_sl {σ : AS} {c : Bool} (h : els.all (fun el => el.length == sz) = true) : Den.elems σ sz (.sl els c) = some els := by
  simp only [Den.elems]; rw [if_pos h]
end
theorem eqAL_int {k : IntKind} {a b : Int} {ks : List EK} {as bs : List AV} : eqAL (.int :: ks) (.int k a :: as) (.int k b :: bs) = if a = b then eqAL ks as bs else some false := by
  simp only [eqAL, eqP, if_true]
  by_cases h : a = b
  · subst h; simp
  · have : (a == b) = false := by simpa using h
    simp only [this, if_neg h]
theorem eqAL_str {a b : List UInt8} {ks : List EK} {as bs : List AV} : eqAL (.str :: ks) (S a :: as) (S b :: bs) = if a = b then eqAL ks as bs else some false := by
  simp only [eqAL, eqP, S, ByteArray.toList_mk]
  by_cases h : a = b
  · subst h; simp
  · have : (a == b) = false := by simpa using h
    simp only [this, if_neg h]
theorem eqAL_bool {a b : Bool} {ks : List EK} {as bs : List AV} : eqAL (.bool :: ks) (.bool a :: as) (.bool b :: bs) = if a = b then eqAL ks as bs else some false := by
  simp only [eqAL, eqP]
  cases a <;> cases b <;> rfl
theorem eqAL_nil : eqAL [] [] [] = some true := rfl
/-- Something new goes out: nothing is cut back. -/
theorem finish_none {N : Nat} {v : AV} {lo : Option Nat} {H : List AObj} (h1 : ¬ v.refs ≤ N) (h2 : freeze ⟨H, none⟩ N 12 v = none) : finish N lo v ⟨H, none⟩ = (v, ⟨H, lo⟩) := by
  rw [finish_0, if_neg h1, h2]; rfl
theorem freeze_ptr {N id o k : Nat} {σ : AS} (h : N ≤ id) : freeze σ N k (.ptr id o) = none := by
  cases k with
  | zero => rw [freeze]
  | succ k =>
    have h1 : ¬ (AV.ptr id o).refs ≤ N := by simp only [AV.refs]; omega
    simp [freeze, h1]
theorem freeze_ifc {N k : Nat} {t : TypeId} {v : AV} {σ : AS} (h : ¬ v.refs ≤ N) : freeze σ N k (.ifc t v) = none := by
  cases k with
  | zero => rw [freeze]
  | succ k =>
    have h1 : ¬ (AV.ifc t v).refs ≤ N := by simpa only [AV.refs] using h
    simp [freeze, h1]
theorem finish_ptr {N id o : Nat} {lo : Option Nat} {H : List AObj} (h : N ≤ id) : finish N lo (.ptr id o) ⟨H, none⟩ = (.ptr id o, ⟨H, lo⟩) :=
  finish_none (by simp only [AV.refs]; omega) (freeze_ptr h)
theorem finish_ifc {N id o : Nat} {t : TypeId} {lo : Option Nat} {H : List AObj} (h : N ≤ id) : finish N lo (.ifc t (.ptr id o)) ⟨H, none⟩ = (.ifc t (.ptr id o), ⟨H, lo⟩) :=
  finish_none (by simp only [AV.refs]; omega) (freeze_ifc (by simp only [AV.refs]; omega))
theorem finish_tup_ifc {N id o : Nat} {t : TypeId} {k : IntKind} {a : Int} {lo : Option Nat} {H : List AObj} (h : N ≤ id) : finish N lo (.tup [.int k a, .ifc t (.ptr id o)]) ⟨H, none⟩ = (.tup [.int k a, .ifc t (.ptr id o)], ⟨H, lo⟩) := by
  have h1 : ¬ (AV.tup [.int k a, .ifc t (.ptr id o)]).refs ≤ N := by simp only [AV.refs, refsL]; omega
  refine finish_none h1 ?_
  rw [freeze_tup, if_neg h1, freezeL, freeze_low (Nat.zero_le _)]
  simp only
  rw [freezeL, freeze_ifc (by simp only [AV.refs]; omega)]

theorem D_prim {X : Ctx} {f : FuncId} {p : List AV → AS → Option CRes} {args : List AV} {σ : AS} {cr : CRes} (hp : X.prim f = some p) (h : p args σ = some cr) : D X (.fn (.func f) [] []) args σ = some cr := by
  refine D_step ?_
  simp only [step, hp, List.nil_append, List.append_nil]
  exact h

theorem fillA_nil {cs : List AV} : fillA cs [] = some cs := rfl
theorem fillA_cons {cs : List AV} {off n : Nat} {v : AV} {r : List (Nat × Nat × AV)} : fillA cs ((off, n, v) :: r) = if v.isTup = false ∧ v.cells.length = n ∧ off + n ≤ cs.length then fillA (splice cs off v.cells) r else none := rfl
theorem bsliceA_eq {z : List AV} {len : Nat} {ps : List (Nat × Nat × AV)} : bsliceA z len ps = (fillA (List.replicate len z).flatten ps).map fun cs => .sl (chunks z.length len cs) true := rfl
theorem browA_eq {σ : AS} {ty : TypeId} {z : List AV} {len : Nat} {ps : List (Nat × Nat × AV)} : browA σ ty z len ps = (fillA (List.replicate len z).flatten ps).map fun cs => (.ref σ.heap.length 0 z.length 0 len false, σ.push (.row 0 z.length ty (chunks z.length len cs))) := rfl
theorem buildA_eq {z : List AV} {ps : List (Nat × Nat × AV)} : buildA z ps = (fillA z ps).map .agg := rfl
theorem chunks_0 {sz : Nat} {cs : List AV} : chunks sz 0 cs = [] := rfl
theorem chunks_s {sz k : Nat} {cs : List AV} : chunks sz (k + 1) cs = cs.take sz :: chunks sz k (cs.drop sz) := rfl
theorem elems_sl' {σ : AS} {sz : Nat} {els : List (List AV)} {c : Bool} : Den.elems σ sz (.sl els c) = if els.all (fun el => el.length == sz) then some els else none := rfl
theorem elsK_ite {c : Prop} [Decidable c] {r : Option (List (List AV))} {ty : TypeId} {sz b : Nat} {s : AV} {K : AV → AS → Prop} {σ : AS} : elsK (if c then r else none) ty sz b s K σ = (c ∧ elsK r ty sz b s K σ) := by
  split <;> simp [*, elsK]
theorem addr_sl {sz : Nat} {els : List (List AV)} {c : Bool} {k : IntKind} {a : Int} : iaddrsA sz (.sl els c) (.int k a) = if 0 ≤ a ∧ a < els.length ∧ (els.getD a.toNat []).length = sz then some (.eptr (els.getD a.toNat []) 0) else none := by
  simp only [iaddrsA, intOf?]
  by_cases h0 : 0 ≤ a
  · by_cases h1 : a < els.length
    · have h2 : a.toNat < els.length := by omega
      have e : els.getD a.toNat [] = els[a.toNat] := by simp [List.getD_eq_getElem?_getD, List.getElem?_eq_getElem h2]
      rw [if_pos h0, List.getElem?_eq_getElem h2, e]
      simp only []
      by_cases h3 : els[a.toNat].length = sz
      · rw [if_pos h3, if_pos ⟨h0, h1, h3⟩]
      · rw [if_neg h3, if_neg (fun h => h3 h.2.2)]
    · rw [if_pos h0, List.getElem?_eq_none (by omega), if_neg (fun h => h1 h.2.1)]
  · rw [if_neg h0, if_neg (fun h => h0 h.1)]
theorem addra_ptr {X : Ctx} {n sz id off : Nat} {k : IntKind} {a : Int} : iaddraA X n sz (.ptr id off) (.int k a) = if 0 ≤ a ∧ a < n then some (.ptr id (off + a.toNat * sz)) else none := rfl
theorem addra_rptr {X : Ctx} {n sz id ver j off : Nat} {k : IntKind} {a : Int} : iaddraA X n sz (.rptr id ver j off) (.int k a) = if 0 ≤ a ∧ a < n then some (.rptr id ver j (off + a.toNat * sz)) else none := rfl
theorem addra_eptr {X : Ctx} {n sz off : Nat} {cs : List AV} {k : IntKind} {a : Int} : iaddraA X n sz (.eptr cs off) (.int k a) = if 0 ≤ a ∧ a < n then some (.eptr cs (off + a.toNat * sz)) else none := rfl
theorem addra_glob {X : Ctx} {n sz g : Nat} {k : IntKind} {a : Int} : iaddraA X n sz (.glob g) (.int k a) = if 0 ≤ a ∧ a < n then (match X.glob g with | some cs => some (.eptr cs (a.toNat * sz)) | none => none) else none := rfl
theorem fldA_agg {ag : Bool} {n off : Nat} {cs : List AV} : fldA ag n off (.agg cs) = Den.part ag n cs off := rfl
theorem extA_tup {vs : List AV} {i : Nat} : extA (.tup vs) i = vs[i]? := rfl
theorem fst_mk {a b : AV} : (a, b).1 = a := rfl
theorem len_sl {σ : AS} {els : List (List AV)} {c : Bool} : lenA σ .sl (.sl els c) = some (.int .i64 els.length) := rfl
theorem len_nils {σ : AS} : lenA σ .sl .nils = some (.int .i64 0) := rfl
theorem len_ref {σ : AS} {id v z o n : Nat} {c : Bool} : lenA σ .sl (.ref id v z o n c) = some (.int .i64 n) := rfl
theorem len_aref {σ : AS} {id sz off n : Nat} : lenA σ .sl (.aref id sz off n) = some (.int .i64 n) := rfl
theorem addrs_aref {m id sz off n : Nat} {k : IntKind} {a : Int} : iaddrsA m (.aref id sz off n) (.int k a) = if 0 ≤ a ∧ a < n ∧ sz = m then some (.ptr id (off + a.toNat * m)) else none := rfl
theorem slarr_ptr {X : Ctx} {n sz id off : Nat} {k k' : IntKind} {a b : Int} : slarrA X n sz (.ptr id off) (some (.int k a)) (some (.int k' b)) = if 0 ≤ a ∧ a ≤ b ∧ b ≤ n then some (.aref id sz (off + a.toNat * sz) (b.toNat - a.toNat)) else none := by
  simp only [slarrA, boundsA, upTo]
  by_cases h : 0 ≤ b ∧ b ≤ n
  · rw [if_pos h]
    by_cases h' : 0 ≤ a ∧ a ≤ b
    · have e1 : 0 ≤ a ∧ a ≤ (b.toNat : Int) := by omega
      have e2 : 0 ≤ a ∧ a ≤ b ∧ b ≤ n := by omega
      simp only [if_pos e1, if_pos e2]
    · have e1 : ¬ (0 ≤ a ∧ a ≤ (b.toNat : Int)) := by omega
      have e2 : ¬ (0 ≤ a ∧ a ≤ b ∧ b ≤ n) := by omega
      simp only [if_neg e1, if_neg e2]
  · have e2 : ¬ (0 ≤ a ∧ a ≤ b ∧ b ≤ n) := by omega
    rw [if_neg h, if_neg e2]
theorem slarr_ptr0 {X : Ctx} {n sz id off : Nat} {k' : IntKind} {b : Int} : slarrA X n sz (.ptr id off) none (some (.int k' b)) = if 0 ≤ b ∧ b ≤ n then some (.aref id sz off b.toNat) else none := by
  simp only [slarrA, boundsA, upTo]
  by_cases h : 0 ≤ b ∧ b ≤ n
  · simp only [if_pos h, Nat.zero_mul, Nat.add_zero, Nat.sub_zero]
  · simp only [if_neg h]
theorem elems_aref {H : List AObj} {lo : Option Nat} {id sz m off n : Nat} : Den.elems ⟨H, lo⟩ m (.aref id sz off n) = match H[id]? with
    | some (.box cs _) => if sz = m ∧ off + n * m ≤ cs.length then some (chunks m n (cs.drop off)) else none
    | _ => none := rfl
theorem b2s_some {els : List (List AV)} : b2sA (some els) = (stringA els).map fun l => S l := rfl
theorem b2s_ite {c : Prop} [Decidable c] {r : Option (List (List AV))} : b2sA (if c then r else none) = if c then b2sA r else none := by split <;> rfl
theorem stringA_nil : stringA [] = some [] := rfl
theorem stringA_cons {n : Int} {r : List (List AV)} : stringA ([.int .u8 n] :: r) = (stringA r).map (UInt8.ofNat n.toNat :: ·) := rfl
theorem take_app1 {H : List AObj} {x : AObj} {n m : Nat} (h : H.length = n) (hm : m = n + 1) : (H ++ [x]).take m = H ++ [x] := by
  subst h; subst hm; rw [List.take_of_length_le (by simp)]
theorem dT {h : Decidable True} : @decide True h = true := by simp
theorem dF {h : Decidable False} : @decide False h = false := by simp
theorem iT {p : Prop} : (True → p) = p := by simp
theorem iF {p : Prop} : (False → p) = True := by simp
theorem iN {p : Prop} : (¬ True → p) = True := by simp
theorem iM {p : Prop} : (¬ False → p) = p := by simp
theorem O1 : type_of% @fillA_nil ∧ type_of% @fillA_cons ∧ type_of% @bsliceA_eq ∧ type_of% @browA_eq ∧ type_of% @buildA_eq ∧ type_of% @chunks_0 ∧ type_of% @chunks_s ∧ type_of% @elems_sl' ∧ type_of% @elsK_ite ∧ type_of% @fldA_agg ∧ type_of% @len_aref ∧ type_of% @len_sl ∧ type_of% @len_nils ∧ type_of% @len_ref ∧ type_of% @addrs_aref ∧ type_of% @slarr_ptr ∧ type_of% @slarr_ptr0 ∧ type_of% @elems_aref ∧ type_of% @b2s_some ∧ type_of% @b2s_ite ∧ type_of% @stringA_nil ∧ type_of% @stringA_cons ∧ type_of% @dT ∧ type_of% @dF ∧ type_of% @iT ∧ type_of% @iF ∧ type_of% @iN ∧ type_of% @iM ∧ type_of% @List.getD_cons_zero.{0} ∧ type_of% @List.getD_cons_succ.{0} ∧ type_of% @addr_sl ∧ type_of% @addra_ptr ∧ type_of% @addra_rptr ∧ type_of% @addra_eptr ∧ type_of% @addra_glob ∧ type_of% @Nat.mul_one ∧ type_of% @extA_tup ∧ type_of% @List.replicate_succ.{0} ∧ type_of% @List.replicate_zero.{0} ∧ type_of% @List.flatten_cons.{0} ∧ type_of% @List.flatten_nil.{0} ∧ type_of% @List.all_cons.{0} ∧ type_of% @List.all_nil.{0} :=
  ⟨@fillA_nil, @fillA_cons, @bsliceA_eq, @browA_eq, @buildA_eq, @chunks_0, @chunks_s, @elems_sl', @elsK_ite, @fldA_agg, @len_aref, @len_sl, @len_nils, @len_ref, @addrs_aref, @slarr_ptr, @slarr_ptr0, @elems_aref, @b2s_some, @b2s_ite, @stringA_nil, @stringA_cons, @dT, @dF, @iT, @iF, @iN, @iM, @List.getD_cons_zero, @List.getD_cons_succ, @addr_sl, @addra_ptr, @addra_rptr, @addra_eptr, @addra_glob, @Nat.mul_one, @extA_tup, @List.replicate_succ, @List.replicate_zero, @List.flatten_cons, @List.flatten_nil, @List.all_cons, @List.all_nil⟩
end Go.Den

/- Results that lie in variables. -/
namespace Go.Den
open Go
variable {X : Ctx} {n : Nat} {lo : Option Nat} {e : Env} {σ : AS} {R : CRes → Prop} {a b c d m k : Nat} {ag ah : Bool}

def finK (n : Nat) (lo : Option Nat) (R : CRes → Prop) : AV → AS → Prop := fun v σ => R (.ret (finish n lo v σ).1 (finish n lo v σ).2)
theorem finK_at {v : AV} : finK n lo R v σ = R (.ret (finish n lo v σ).1 (finish n lo v σ).2) := rfl

theorem retK_c : retK X n lo [.cell a ag m] R .ret ⟨e, []⟩ σ = okV (loadA X σ ag m (e a)) (finK n lo R) σ := by
  simp only [retK_ret, killMarks_nil, resultsA, resultsL, resultA]
  cases h : loadA X σ ag m (e a) with
  | none => simp [okV, h]
  | some v => simp [okV, finK, h]
theorem retK_ct : retK X n lo [.cell a ag m, .t b] R .ret ⟨e, []⟩ σ = okV (loadA X σ ag m (e a)) (fun v σ => finK n lo R (.tup [v, e b]) σ) σ := by
  simp only [retK_ret, killMarks_nil, resultsA, resultsL, resultA]
  cases h : loadA X σ ag m (e a) with
  | none => simp [okV, h]
  | some v => simp [okV, finK, h]
theorem retK_ctt : retK X n lo [.cell a ag m, .t b, .t c] R .ret ⟨e, []⟩ σ = okV (loadA X σ ag m (e a)) (fun v σ => finK n lo R (.tup [v, e b, e c]) σ) σ := by
  simp only [retK_ret, killMarks_nil, resultsA, resultsL, resultA]
  cases h : loadA X σ ag m (e a) with
  | none => simp [okV, h]
  | some v => simp [okV, finK, h]
theorem retK_cttt : retK X n lo [.cell a ag m, .t b, .t c, .t d] R .ret ⟨e, []⟩ σ = okV (loadA X σ ag m (e a)) (fun v σ => finK n lo R (.tup [v, e b, e c, e d]) σ) σ := by
  simp only [retK_ret, killMarks_nil, resultsA, resultsL, resultA]
  cases h : loadA X σ ag m (e a) with
  | none => simp [okV, h]
  | some v => simp [okV, finK, h]
theorem retK_cc : retK X n lo [.cell a ag m, .cell b ah k] R .ret ⟨e, []⟩ σ = okV (loadA X σ ag m (e a)) (fun v σ => okV (loadA X σ ah k (e b)) (fun u σ => finK n lo R (.tup [v, u]) σ) σ) σ := by
  simp only [retK_ret, killMarks_nil, resultsA, resultsL, resultA]
  cases h : loadA X σ ag m (e a) with
  | none => simp [okV, h]
  | some v =>
    cases h2 : loadA X σ ah k (e b) with
    | none => simp [okV, h, h2]
    | some u => simp [okV, finK, h, h2]
theorem Q1 : type_of% @finK_at ∧ type_of% @retK_c ∧ type_of% @retK_ct ∧ type_of% @retK_ctt ∧ type_of% @retK_cttt ∧ type_of% @retK_cc := ⟨@finK_at, @retK_c, @retK_ct, @retK_ctt, @retK_cttt, @retK_cc⟩
end Go.Den

/- Den: guarded operations of regions that draw their order. -/
namespace Go.Den
open Go
section
variable {X : Ctx} {f : FuncId} {rd : Bool} {σ : AS} {Q : Post} {e : Env} {ms : List Nat} {fps : List FP} {js : List Nat} {os : List (Ins × List Nat)} {i : I} {d : Option Nat} {dd t : Nat} {v : AV}

def kFg (fps : List FP) (o : Ins) (js : List Nat) (os : List (Ins × List Nat)) (e : Env) (ms : List Nat) (Q : Post) : AV → AS → Prop := fun v σ => panicOk fps (o, js) os = true ∧ Q (.panic v) ⟨e, ms⟩ σ

def gD (X : Ctx) (t : Nat) (b : Bool) (d : Option Nat) (i : I) (js : List Nat) (os : List (Ins × List Nat)) (fps : List FP) (e : Env) (ms : List Nat) (σ : AS) (Q : Post) (c : AV) : Prop := match c with
  | .bool x => if x = b then wpI X i e σ (kD X i σ fps js os d e ms Q) (kFg fps ⟨some (t, b), d, i⟩ js os e ms Q) else wpD X (fps ++ [.no]) os (Fr.put ⟨e, ms⟩ d .undef) σ Q
  | _ => wpD X (fps ++ [.no]) os (Fr.put ⟨e, ms⟩ d .undef) σ Q

theorem wD_g {b : Bool} : wpD X fps ((⟨some (t, b), d, i⟩, js) :: os) ⟨e, ms⟩ σ Q = gD X t b d i js os fps e ms σ Q (e t) := by
  unfold gD
  split
  · rename_i x hx
    by_cases h : x = b
    · subst h
      rw [if_pos rfl]
      apply propext
      simp only [wpD, wpI, runOpsD, wantedA, hx, beq_self_eq_true, if_true, kD]
      cases hx : exec X (D X) i e σ with
      | none => simp [outK]
      | some o =>
        cases o with
        | ok v σ' =>
          simp only [outK, allF_eq]
          by_cases hc : allF fps (fpOf i e σ σ') js = true
          · rw [if_pos hc]; exact ⟨fun h => ⟨hc, h⟩, fun h => h.2⟩
          · simp [kD, hc]
        | panic v σ' =>
          simp only [outK, kFg]
          by_cases hc : panicOk fps (⟨some (t, x), d, i⟩, js) os = true
          · rw [if_pos hc]
            constructor
            · rintro ⟨_, _, _, h, q⟩; cases h; exact ⟨hc, q⟩
            · exact fun q => ⟨_, _, _, rfl, q.2⟩
          · simp [hc]
    · rw [if_neg h]
      have : (x == b) = false := by simpa using h
      simp only [wpD, runOpsD, wantedA, hx, this, Bool.false_eq_true, if_false]
  · rename_i hx
    have : wantedA e (some (t, b)) = false := by
      unfold wantedA
      simp only
    simp only [wpD, runOpsD, this, Bool.false_eq_true, if_false]
theorem wD_gt : wpD X fps ((gt t d i, js) :: os) ⟨e, ms⟩ σ Q = gD X t true d i js os fps e ms σ Q (e t) := wD_g
theorem wD_gf : wpD X fps ((gf t d i, js) :: os) ⟨e, ms⟩ σ Q = gD X t false d i js os fps e ms σ Q (e t) := wD_g
theorem gD_tt : gD X t true (some dd) i js os fps e ms σ Q (.bool true) = wpI X i e σ (kD X i σ fps js os (some dd) e ms Q) (kFg fps ⟨some (t, true), (some dd), i⟩ js os e ms Q) := rfl
theorem gD_tt' : gD X t true none i js os fps e ms σ Q (.bool true) = wpI X i e σ (kD X i σ fps js os none e ms Q) (kFg fps ⟨some (t, true), none, i⟩ js os e ms Q) := rfl
theorem gD_ff : gD X t false (some dd) i js os fps e ms σ Q (.bool false) = wpI X i e σ (kD X i σ fps js os (some dd) e ms Q) (kFg fps ⟨some (t, false), (some dd), i⟩ js os e ms Q) := rfl
theorem gD_ff' : gD X t false none i js os fps e ms σ Q (.bool false) = wpI X i e σ (kD X i σ fps js os none e ms Q) (kFg fps ⟨some (t, false), none, i⟩ js os e ms Q) := rfl
theorem gD_tf : gD X t true (some dd) i js os fps e ms σ Q (.bool false) = wpD X (fps ++ [.no]) os ⟨e.set dd .undef, ms⟩ σ Q := rfl
theorem gD_tf' : gD X t true none i js os fps e ms σ Q (.bool false) = wpD X (fps ++ [.no]) os ⟨e, ms⟩ σ Q := rfl
theorem gD_ft : gD X t false (some dd) i js os fps e ms σ Q (.bool true) = wpD X (fps ++ [.no]) os ⟨e.set dd .undef, ms⟩ σ Q := rfl
theorem gD_ft' : gD X t false none i js os fps e ms σ Q (.bool true) = wpD X (fps ++ [.no]) os ⟨e, ms⟩ σ Q := rfl
theorem gD_un {b : Bool} {c : List AV} : gD X t b (some dd) i js os fps e ms σ Q (.tup c) = wpD X (fps ++ [.no]) os ⟨e.set dd .undef, ms⟩ σ Q := rfl
theorem gD_un' {b : Bool} {c : List AV} : gD X t b none i js os fps e ms σ Q (.tup c) = wpD X (fps ++ [.no]) os ⟨e, ms⟩ σ Q := rfl
theorem gD_dec {b : Bool} {p : Prop} [Decidable p] : gD X t b d i js os fps e ms σ Q (.bool (decide p)) = ((p → gD X t b d i js os fps e ms σ Q (.bool true)) ∧ (¬ p → gD X t b d i js os fps e ms σ Q (.bool false))) := by
  by_cases h : p <;> simp [h]
theorem gD_any {b c : Bool} : gD X t b d i js os fps e ms σ Q (.bool c) = ((c = true → gD X t b d i js os fps e ms σ Q (.bool true)) ∧ (c = false → gD X t b d i js os fps e ms σ Q (.bool false))) := by
  cases c <;> simp
theorem G1 : type_of% @wD_gt ∧ type_of% @wD_gf ∧ type_of% @gD_tt ∧ type_of% @gD_tt' ∧ type_of% @gD_ff ∧ type_of% @gD_ff' ∧ type_of% @gD_tf ∧ type_of% @gD_tf' ∧ type_of% @gD_ft ∧ type_of% @gD_ft' ∧ type_of% @gD_un ∧ type_of% @gD_un' :=
  ⟨@wD_gt, @wD_gf, @gD_tt, @gD_tt', @gD_ff, @gD_ff', @gD_tf, @gD_tf', @gD_ft, @gD_ft', @gD_un, @gD_un'⟩
end
end Go.Den
