/- Den, second part: operations on memory, calls, loops, regions that draw their order: whatever Den computes for a call the machine comes to (conditions: the code table, the listed variables, the primitives hold). -/
import Derived.Test.YthbgjjdbcalhcaaGreatDoorDenA
import Derived.Laws.IdiomStrings
import Derived.Laws.MakeOwn
import Derived.Lib.UnsafeStr
import Derived.RangeFuncLeaves
import Derived.Orders
set_option linter.unusedVariables false
set_option linter.unusedSimpArgs false
set_option linter.unusedSectionVars false
set_option linter.deprecated false

/- Den: operations that act on memory: new objects, stores. -/
namespace Go.Den
open Go Go.RowKit

variable {P : Program} {X : Ctx} {B : Nat} {w₀ : World}
variable {G : Gh} {σ : AS} {w : World}

/-- An operation that gives a value. -/
def GoodV (P : Program) (B : Nat) (w₀ : World) (G : Gh) (σ : AS) (v : AV) (σ' : AS) (r : Result Value) : Prop :=
  ∃ G' w' v', r = .ok v' w' ∧ G.le G' ∧ WRel P B w₀ G' σ' w' ∧ VRel G' v v' ∧ σ.Ext σ'

/-- An operation that gives none. -/
def GoodU (P : Program) (B : Nat) (w₀ : World) (G : Gh) (σ : AS) (σ' : AS) (r : Result Unit) : Prop :=
  ∃ G' w', r = .ok () w' ∧ G.le G' ∧ WRel P B w₀ G' σ' w' ∧ σ.Ext σ'

/-! What cells refer to. -/

theorem refsL_append : ∀ {a b : List AV}, refsL (a ++ b) = max (refsL a) (refsL b)
  | [], b => by simp [refsL]
  | x :: a, b => by simp only [List.cons_append, refsL, refsL_append (a := a)]; omega

theorem refsLL_flatten : ∀ {els : List (List AV)}, refsLL els = refsL els.flatten
  | [] => by simp [refsLL, refsL]
  | x :: xs => by simp only [refsLL, List.flatten_cons, refsL_append, refsLL_flatten (els := xs)]

theorem refsL_take {a : List AV} {n : Nat} : refsL (a.take n) ≤ refsL a := by
  have h := refsL_append (a := a.take n) (b := a.drop n)
  rw [List.take_append_drop] at h; omega

theorem refsL_drop {a : List AV} {n : Nat} : refsL (a.drop n) ≤ refsL a := by
  have h := refsL_append (a := a.take n) (b := a.drop n)
  rw [List.take_append_drop] at h; omega

theorem refsL_splice {cs vs : List AV} {off : Nat} : refsL (splice cs off vs) ≤ max (refsL cs) (refsL vs) := by
  unfold splice
  have h1 := refsL_take (a := cs) (n := off)
  have h2 := refsL_drop (a := cs) (n := off + vs.length)
  rw [refsL_append, refsL_append]; omega

theorem refs_cells {v : AV} : refsL v.cells = v.refs := by
  cases v <;> simp [AV.cells, refsL, AV.refs]

theorem splice_length {cs vs : List AV} {off : Nat} (h : off + vs.length ≤ cs.length) : (splice cs off vs).length = cs.length := by
  unfold splice; simp; omega

/-! New objects. -/

theorem new_box (hw : WRel P B w₀ G σ w) {cs : List AV} {c : Array Value} (ty : TypeId) (hl : LRel G cs c.toList) (lf : Leaves c.toList) (tg : Option TypeId) (htg : ∀ t, tg = some t → ty = t) :
    GoodV P B w₀ G σ (.ptr σ.heap.length 0) (σ.push (.box cs tg)) (.ok (.pointer (some ⟨w.heap.size, 0, none⟩)) (w.alloc (.cells c ty))) := by
  have hle := G.le_push w.heap.size 0 0
  refine ⟨G.push w.heap.size 0 0, _, _, rfl, hle, hw.push _ _ 0 0 ?_, ?_, .push σ _⟩
  · refine ⟨by simp [Gh.push], c, ty, ?_, hl.mono hle, lf, htg⟩
    have : (G.push w.heap.size 0 0).blk G.n = w.heap.size := by simp [Gh.push]
    rw [this]; exact heap_alloc_new _ _
  · refine ⟨Gh.on_new hw, _, rfl, fun _ => ?_⟩
    simp [Gh.push, hw.len]

theorem tagZ_eq {z : List AV} {t t' : TypeId} (h : tagZ z t = some t') : t = t' := by
  unfold tagZ at h
  split at h
  · exact Option.some.inj h
  · cases h

theorem tagB_eq {z : Option (List AV)} {t t' : TypeId} (h : (z.bind fun z => tagZ z t) = some t') : t = t' := by
  cases z with
  | none => cases h
  | some z => exact tagZ_eq h

theorem alloc_run (hw : WRel P B w₀ G σ w) {t : TypeId} {z : List AV} (hz : zcells P t = some z) :
    GoodV P B w₀ G σ (.ptr σ.heap.length 0) (σ.push (.box z (tagZ z t))) ((Instr.alloc t true (.tuple #[])).run P w) := by
  obtain ⟨z', e, _, l, lf, _⟩ := zcells_rel hz G w
  have : (Instr.alloc t true (.tuple #[])).run P w = .ok (.pointer (some ⟨w.heap.size, 0, none⟩)) (w.alloc (.cells z'.cells t)) := by
    simp [Instr.alloc, e, newVar, newRow]
  rw [this]
  exact new_box hw t l lf _ (fun t' h => tagZ_eq h)

theorem box_run (hw : WRel P B w₀ G σ w) {t : TypeId} {x : AV} {x' : Value} {tg : Option TypeId} (htg : ∀ t', tg = some t' → t = t') (hx : VRel G x x') (ht : x.isTup = false) :
    GoodV P B w₀ G σ (.ptr σ.heap.length 0) (σ.push (.box x.cells tg)) ((Instr.box t x').run P w) := by
  obtain ⟨l, lf⟩ := hx.cells ht
  have : (Instr.box t x').run P w = .ok (.pointer (some ⟨w.heap.size, 0, none⟩)) (w.alloc (.cells x'.cells t)) := by
    simp [Instr.box, newVar, newRow]
  rw [this]
  exact new_box hw t l lf tg htg

theorem new_row (hw : WRel P B w₀ G σ w) {sz : Nat} {els : List (List AV)} {c : Array Value} {vs post : List Value} {cap : Nat} (ty : TypeId) (hc : c.toList = vs ++ post) (hu : ∀ el ∈ els, el.length = sz) (hl : LLRel G els vs) (lf : Leaves vs)
    (hcap : c.size = cap * sz) (hle : els.length ≤ cap) (len : Nat) (hlen : len = els.length) {w' : World} (hww : w'.heap = w.heap) (hw' : WRel P B w₀ G σ w') :
    GoodV P B w₀ G σ (.ref σ.heap.length 0 sz 0 len false) (σ.push (.row 0 sz ty els)) (.ok (.slice (some ⟨w.heap.size, 0, none⟩) len cap) (w'.alloc (.cells c ty))) := by
  subst hlen
  rw [← hww]
  have hle' := G.le_push w'.heap.size (cap * sz) sz
  refine ⟨G.push w'.heap.size (cap * sz) sz, _, _, rfl, hle', hw'.push _ _ _ _ ?_, ?_, .push σ _⟩
  · have e1 : (G.push w'.heap.size (cap * sz) sz).blk G.n = w'.heap.size := by simp [Gh.push]
    refine ⟨by simp [Gh.push], by simp [Gh.push], hu, c, [], vs, post, ?_, by simpa using hc, by simp [Gh.push], ?_, hl.mono hle', lf⟩
    · rw [e1]; exact heap_alloc_new _ _
    · simp [Gh.push, hcap]
  · refine ⟨Gh.on_new hw', by simp [Gh.push, hw.len], _, cap, rfl, ⟨hle, rfl⟩, by simp, fun _ => ⟨by simp [Gh.push, hw.len], fun _ => by simp [Gh.push, hw.len], by simp [Gh.push, hw.len]⟩⟩

theorem mkmap_run (hw : WRel P B w₀ G σ w) (t : TypeId) : GoodV P B w₀ G σ (.mp σ.heap.length) (σ.push (.map [])) ((Instr.makeMap t none).run P w) := by
  have : (Instr.makeMap t none).run P w = .ok (.map (some w.heap.size)) (w.alloc (.map #[] 0)) := by simp [Instr.makeMap]
  rw [this]
  have hle := G.le_push w.heap.size 0 0
  refine ⟨G.push w.heap.size 0 0, _, _, rfl, hle, hw.push _ _ 0 0 ?_, ?_, .push σ _⟩
  · refine ⟨by simp [Gh.push], #[], 0, ?_, by simp [MRel]⟩
    have : (G.push w.heap.size 0 0).blk G.n = w.heap.size := by simp [Gh.push]
    rw [this]; exact heap_alloc_new _ _
  · exact ⟨Gh.on_new hw, _, rfl, fun _ => by simp [Gh.push, hw.len]⟩

theorem rng_run (hw : WRel P B w₀ G σ w) {t : TypeId} (h1 : P.underlying t = some .string) (s : ByteArray) : GoodV P B w₀ G σ (.ptr σ.heap.length 0) (σ.push (.siter s 0)) ((Instr.range t (.string s)).run P w) := by
  have : (Instr.range t (.string s)).run P w = .ok (.pointer (some ⟨w.heap.size, 0, none⟩)) (w.alloc (.stringIter s 0)) := by simp [Instr.range, run_underlying h1]
  rw [this]
  have hle := G.le_push w.heap.size 0 0
  refine ⟨G.push w.heap.size 0 0, _, _, rfl, hle, hw.push _ _ 0 0 ?_, ?_, .push σ _⟩
  · refine ⟨by simp [Gh.push], ?_⟩
    have : (G.push w.heap.size 0 0).blk G.n = w.heap.size := by simp [Gh.push]
    rw [this]; exact heap_alloc_new _ _
  · exact ⟨Gh.on_new hw, _, rfl, fun _ => by simp [Gh.push, hw.len]⟩

/-! Stores. -/

theorem putB_world (w : World) (b : Nat) (O : Obj) : (putB w b O).os = w.os ∧ (putB w b O).tape = w.tape ∧ (putB w b O).output = w.output := ⟨rfl, rfl, rfl⟩

/-- An object's block becomes another one; the ghost stays. -/
theorem WRel.put (hw : WRel P B w₀ G σ w) {id : Nat} (hid : G.on id) {O : Obj} {o' : AObj} (refs : Nat) (ho : ORel P G id (putB w (G.blk id) O) o') : WRel P B w₀ G (σ.set id o' refs) (putB w (G.blk id) O) :=
  hw.set hid o' refs G.le_refl rfl rfl (fun _ _ _ => rfl) (.inl rfl) (by rw [putB_size]; exact (hw.low id hid).2) (fun k hk _ => putB_other hk) (by simp) rfl rfl rfl ho

theorem box_put (hw : WRel P B w₀ G σ w) {id : Nat} {cs as : List AV} {tg : Option TypeId} (he : σ.heap[id]? = some (.box cs tg)) (hz : G.pz id = none) {us : List Value} {off : Nat} (hl : LRel G as us) (lf : Leaves us) (h : off + as.length ≤ cs.length) {refs : Nat} (hr : refsL as ≤ refs) :
    GoodU P B w₀ G σ (σ.set id (.box (splice cs off as) tg) refs) ((storeCells ⟨G.blk id, off, none⟩ us).run P w) := by
  obtain ⟨h0, hid, c, ty, hb, hl', lf', htg⟩ := cells_of_box hw he hz
  have hc := hl'.length
  rw [Array.length_toList] at hc
  have hu := hl.length
  refine ⟨G, _, ?_, G.le_refl, hw.put hid refs (O := .cells (putC c off us) ty (0, 0)) ?_, .set he fun n hn hr' => ?_⟩
  · have := run_storeCells (P := P) us c w off 0 hb (by omega) lf
    simpa using this
  · exact ⟨h0, _, ty, putB_same (hw.low id hid).2, hl'.splice hl h, lf'.splice lf (by omega), htg⟩
  · simp only [AObj.le] at hn ⊢
    have := refsL_splice (cs := cs) (vs := as) (off := off)
    omega

theorem row_put (hw : WRel P B w₀ G σ w) {id ver sz : Nat} {ty : TypeId} {els els' : List (List AV)} {as : List AV} (he : σ.heap[id]? = some (.row ver sz ty els)) (hz : G.pz id = none) {us : List Value} {p : Nat} (hl : LRel G as us) (lf : Leaves us) (h : p + as.length ≤ els.flatten.length)
    (hu : ∀ el ∈ els', el.length = sz) (hf : els'.flatten = splice els.flatten p as) {refs : Nat} (hr : refsL as ≤ refs) :
    GoodU P B w₀ G σ (σ.set id (.row ver sz ty els') refs) ((storeCells ⟨G.blk id, G.base id + p, none⟩ us).run P w) := by
  obtain ⟨h0, hsz, hu', c, pre, vs, post, hb, hc, hp, hs, hl', lf'⟩ := hw.obj id _ he hz
  have hid : G.on id := ⟨by rw [hw.len]; exact (List.getElem?_eq_some_iff.1 he).1, hz⟩
  have hL := LLRel.iff.1 hl'
  have hvl := hL.length
  have hul := hl.length
  have hcs : c.size = pre.length + (vs.length + post.length) := by
    rw [← Array.length_toList, hc]; simp
  refine ⟨G, _, ?_, G.le_refl, hw.put hid refs (O := .cells (putC c (G.base id + p) us) ty (0, 0)) ?_, .set he fun n hn hr' => ?_⟩
  · have := run_storeCells (P := P) us c w (G.base id + p) 0 hb (by omega) lf
    simpa using this
  · refine ⟨h0, hsz, hu, _, pre, vs.take p ++ (us ++ vs.drop (p + us.length)), post, putB_same (hw.low id hid).2, ?_, hp, by rw [putC_size]; exact hs, ?_, (lf'.take p).append (lf.append (lf'.drop _))⟩
    · rw [putC_toList _ _ _ (by omega), hc, ← hp]
      rw [List.take_append, List.take_of_length_le (by omega : pre.length ≤ pre.length + p), Nat.add_sub_cancel_left, List.take_append_of_le_length (by omega)]
      rw [Nat.add_assoc, List.drop_append, List.drop_eq_nil_of_le (by omega : pre.length ≤ pre.length + (p + us.length)), Nat.add_sub_cancel_left, List.nil_append, List.drop_append_of_le_length (by omega)]
      simp
    · rw [LLRel.iff, hf]
      unfold splice
      rw [← hul]
      exact (hL.take p).append (hl.append (hL.drop _))
  · simp only [AObj.le, refsLL_flatten] at hn ⊢
    rw [hf]
    have := refsL_splice (cs := els.flatten) (vs := as) (off := p)
    omega

theorem set_flatten {sz : Nat} {els : List (List AV)} {i : Nat} {el el' : List AV} (hu : ∀ x ∈ els, x.length = sz) (hi : els[i]? = some el) (off : Nat) (vs : List AV) (h : off + vs.length ≤ el.length) (he : el' = splice el off vs) :
    (els.set i el').flatten = splice els.flatten (i * sz + off) vs := by
  subst he
  have hlt : i < els.length := (List.getElem?_eq_some_iff.1 hi).1
  have hel : els[i] = el := by simpa [List.getElem?_eq_getElem hlt] using hi
  have hfl : els.flatten = (els.take i).flatten ++ (el ++ (els.drop (i + 1)).flatten) := by
    conv => lhs; rw [← List.take_append_drop i els]
    rw [List.flatten_append, List.drop_eq_getElem_cons hlt]; simp [hel]
  have hpl : (els.take i).flatten.length = i * sz := by
    rw [flat_len fun x hx => hu x (List.mem_of_mem_take hx), List.length_take, Nat.min_eq_left (Nat.le_of_lt hlt)]
  rw [List.set_eq_take_append_cons_drop, if_pos hlt, List.flatten_append, List.flatten_cons]
  rw [hfl]
  unfold splice
  rw [List.take_append, List.take_of_length_le (by omega : (els.take i).flatten.length ≤ i * sz + off), hpl, Nat.add_sub_cancel_left, List.take_append_of_le_length (by omega)]
  rw [Nat.add_assoc, List.drop_append, List.drop_eq_nil_of_le (by omega : (els.take i).flatten.length ≤ i * sz + (off + vs.length)), hpl, Nat.add_sub_cancel_left, List.nil_append, List.drop_append_of_le_length (by omega)]
  simp

theorem store_run (hw : WRel P B w₀ G σ w) {t : TypeId} {n : Nat} (h1 : sizeT P t = some n) {x v : AV} {x' v' : Value} {σ' : AS} (hx : VRel G x x') (hv : VRel G v v') (h : storeA σ n x v = some σ') :
    GoodU P B w₀ G σ σ' ((Instr.storeAt t x' v').run P w) := by
  have key : ∀ (ad : Addr), x' = .pointer (some ad) → v.isTup = false → v.cells.length = n → (Instr.storeAt t x' v').run P w = (storeCells ad v'.cells.toList).run P w ∧ LRel G v.cells v'.cells.toList ∧ Leaves v'.cells.toList := by
    rintro ad rfl ht hn
    obtain ⟨l, lf⟩ := hv.cells ht
    have hl := l.length
    rw [Array.length_toList] at hl
    refine ⟨?_, l, lf⟩
    simp only [Instr.storeAt, Sem.run_bind, Instr.sureAddr, Sem.run_pure, Result.andThen_ok, storeVar, run_size h1]
    rw [if_neg (by omega)]
  unfold storeA at h
  split at h
  · rename_i id off
    split at h
    · rename_i cs he
      split at h
      · rename_i hc
        obtain ⟨c1, c2, c3⟩ := hc
        cases h
        simp only [VRel] at hx
        obtain ⟨hon, ad, e, ha⟩ := hx
        obtain ⟨k1, k2, k3⟩ := key ad e c1 c2
        rw [k1, ha (cells_of_box hw he hon.2).1]
        exact box_put hw he hon.2 k2 k3 (by omega) (by rw [refs_cells]; exact Nat.le_refl _)
      · cases h
    · cases h
  · rename_i id ver i off
    split at h
    · rename_i ver' sz ty els he
      split at h
      · rename_i el hel
        split at h
        · rename_i hc
          obtain ⟨c0, c00, c1, c2, c3⟩ := hc
          subst c0
          cases h
          simp only [VRel] at hx
          obtain ⟨hon, _, ad, e, ha⟩ := hx
          obtain ⟨k1, k2, k3⟩ := key ad e c1 c2
          obtain ⟨g1, g2, g3, _⟩ := hw.obj id _ he hon.2
          rw [k1, ha g1, g2, Nat.add_assoc]
          have hi : i < els.length := (List.getElem?_eq_some_iff.1 hel).1
          have hs := set_flatten g3 hel off v.cells (by omega) rfl
          have hle : i * sz + sz ≤ els.flatten.length := by
            rw [flat_len g3, ← Nat.succ_mul]; exact Nat.mul_le_mul_right _ hi
          exact row_put hw he hon.2 k2 k3 (by omega) (fun y hy => by
            rcases List.mem_or_eq_of_mem_set hy with hy | hy
            · exact g3 y hy
            · rw [hy, splice_length (by omega)]; exact c00) hs (by rw [refs_cells]; exact Nat.le_refl _)
        · cases h
      · cases h
    · cases h
  · cases h

end Go.Den

/- Den: slices that are made, and what is put behind them. -/
namespace Go.Den
open Go Go.RowKit

variable {P : Program} {X : Ctx} {B : Nat} {w₀ : World}
variable {G : Gh} {σ : AS} {w : World}

theorem map_mod (zc : Array Value) (h0 : 0 < zc.size) : ∀ (k : Nat), (List.range (k * zc.size)).map (fun i => zc[i % zc.size]!) = (List.replicate k zc.toList).flatten
  | 0 => by simp
  | k + 1 => by
    have e : (k + 1) * zc.size = zc.size + k * zc.size := by rw [Nat.succ_mul]; omega
    rw [e, List.range_add, List.map_append, List.map_map, List.replicate_succ, List.flatten_cons, ← map_mod zc h0 k]
    congr 1
    · apply List.ext_getElem?
      intro j
      by_cases hj : j < zc.size
      · simp [hj, Nat.mod_eq_of_lt hj]
      · simp [hj]
    · apply List.map_congr_left
      intro i _
      simp

theorem rep_rel {z : List AV} {vs : List Value} (hl : LRel G z vs) : ∀ (k : Nat), LLRel G (List.replicate k z) (List.replicate k vs).flatten
  | 0 => by simp [LLRel]
  | k + 1 => by
    simp only [List.replicate_succ, List.flatten_cons]
    exact ⟨_, _, rfl, hl, rep_rel hl k⟩

theorem rep_leaves {vs : List Value} (h : Leaves vs) (k : Nat) : Leaves (List.replicate k vs).flatten := by
  intro v hv
  simp only [List.mem_flatten, List.mem_replicate] at hv
  obtain ⟨l, ⟨_, rfl⟩, hv⟩ := hv
  exact h v hv

theorem info_of_bytes {t : TypeId} {n : Nat} (h : bytesT P t = some n) : ∃ i, P.info? t = some i ∧ i.bytes = n := by
  unfold bytesT at h
  cases hi : P.info? t with
  | none => simp [hi] at h
  | some i => simp [hi] at h; exact ⟨i, rfl, h⟩

theorem info_of_size {t : TypeId} {n : Nat} (h : sizeT P t = some n) : ∃ i, P.info? t = some i ∧ i.size = n := by
  unfold sizeT at h
  cases hi : P.info? t with
  | none => simp [hi] at h
  | some i => simp [hi] at h; exact ⟨i, rfl, h⟩

theorem zero_of {t : TypeId} {i : TypeInfo} {z : Value} (hi : P.info? t = some i) (h : zeroV P t = some z) : i.zero = some z := by
  unfold zeroV at h; simpa [hi] using h

theorem mkslice_run (hw : WRel P B w₀ G σ w) {t e : TypeId} {z : List AV} {bytes : Nat} (h1 : P.underlying t = some (.slice e)) (h2 : zcells P e = some z) (h3 : bytesT P e = some bytes) (hz0 : 0 < z.length)
    {l c : AV} {l' c' : Value} {v : AV} {σ' : AS} (hl : VRel G l l') (hc : VRel G c c') (h : mksliceA σ e z bytes l c = some (v, σ')) : GoodV P B w₀ G σ v σ' ((Instr.makeSlice t l' c').run P w) := by
  unfold mksliceA at h
  split at h
  · rename_i kl l kc c
    split at h
    · rename_i hb
      obtain ⟨b1, b2, b3, b4⟩ := hb
      cases h
      simp only [VRel] at hl hc
      subst hl hc
      obtain ⟨i, hi, rfl⟩ := info_of_bytes h3
      obtain ⟨z', _, hzv, lz, lfz, hsz⟩ := zcells_rel h2 G w
      have hsz' : i.size = z.length := by unfold sizeT at hsz; simpa [hi] using hsz
      have hzs : z'.cells.size = z.length := by rw [← Array.length_toList]; exact lz.length
      rw [run_make w t e i z' h1 hi (zero_of hi hzv) kl kc l c b1 b2 (by rw [Int.mul_comm]; simp only [room] at b3; omega) (by simp only [room] at b4; omega)]
      have hm : (madeCells z'.cells (c.toNat * i.size)).toList = (List.replicate l.toNat z'.cells.toList).flatten ++ (List.replicate (c.toNat - l.toNat) z'.cells.toList).flatten := by
        unfold madeCells
        rw [hsz', ← hzs, Array.toList_map, Array.toList_range, map_mod _ (by omega)]
        rw [← List.flatten_append, List.replicate_append_replicate]
        congr 2; omega
      refine new_row hw e hm (fun el hel => by rw [List.eq_of_mem_replicate hel]) (rep_rel lz _) (rep_leaves lfz _) (cap := c.toNat) ?_ (by rw [List.length_replicate]; omega) l.toNat (by simp) rfl hw
      simp [madeCells, hsz']
    · cases h
  · cases h

theorem s2b_run (hw : WRel P B w₀ G σ w) {s d e : TypeId} (h1 : P.underlying s = some .string) (h2 : P.underlying d = some (.slice e)) (h3 : P.underlying e = some (.int .u8)) (b : ByteArray) :
    GoodV P B w₀ G σ (.sl (bytesA b) false) σ ((convert s d (.string b)).run P w) := by
  rw [run_bytes_of_string w s d e b h1 h2 h3]
  have hlen : b.data.toList.length = b.size := by simp
  obtain ⟨hle, hw'⟩ := hw.drew.freezeNew (bytesRow b (grownCap w b.size 0 e)) e ((bytesRow b (grownCap w b.size 0 e)).size, (bytesRow b (grownCap w b.size 0 e)).size + 1) (b.data.toList.map fun x => Value.int .u8 x.toNat) (fun j v hj => by
    unfold bytesRow
    rw [Array.getElem?_append_left (by
      have := (List.getElem?_eq_some_iff.1 hj).1
      simpa using this)]
    simpa using hj)
  refine ⟨_, _, _, rfl, hle, hw', ?_, .refl σ⟩
  have hl : ∀ (G : Gh) (l : List UInt8), LLRel G (l.map fun x => [AV.int .u8 x.toNat]) (l.map fun x => Value.int .u8 x.toNat) := by
    intro G l
    induction l with
    | nil => simp [LLRel]
    | cons x xs ih => exact ⟨[_], _, rfl, by simp [LRel, VRel], ih⟩
  refine ⟨w.heap.size, 0, grownCap w b.size 0 e, 1, _, ?_, ?_, by simp, ?_, ?_, ?_, hl _ _⟩
  · simp [bytesA, hlen]
  · simp only [bytesA, List.length_map, hlen]; exact grownCap_ge w b.size 0 e
  · intro el hel
    simp only [bytesA, List.mem_map] at hel
    obtain ⟨x, _, rfl⟩ := hel
    rfl
  · intro j v hj
    simp only [Gh.freeze, Nat.zero_add]
    rw [if_pos (show w.heap.size = w.drew.heap.size from rfl)]; exact hj
  · intro v hv
    simp only [List.mem_map] at hv
    obtain ⟨x, _, rfl⟩ := hv
    rfl

/-- A literal of a slice. -/
theorem bslice_core {t e : TypeId} {z : List AV} {len : Nat} (h1 : P.underlying t = some (.slice e)) (h2 : zcells P e = some z) (hz0 : 0 < z.length) (hsm : len * z.length ≤ 65536)
    {nt : Nat} {env : Env} {a : Act} (he : ERel G nt env a.tmps) {ps : Array (Nat × Operand)} {l : List (Nat × Nat × Opd)}
    (hp : parts (fun i => some (i * z.length, z.length)) ps.toList = some l) {cs : List AV} (hf : fillA (List.replicate len z).flatten (l.map fun p => (p.1, p.2.1, p.2.2.get env)) = some cs) (w : World) :
    ∃ c : Array Value, (Instr.buildSlice t len (ps.map fun (i, x) => (i, a.eval x))).run P w = .ok (.slice (some ⟨w.heap.size, 0, none⟩) len len) (w.alloc (.cells c e)) ∧ LRel G cs c.toList ∧ Leaves c.toList := by
  obtain ⟨z', hrz, hzv, lz, lfz, hsz⟩ := zcells_rel h2 G w
  obtain ⟨i, hi, hsz'⟩ := info_of_size hsz
  have hzs : z'.cells.size = z.length := by rw [← Array.length_toList]; exact lz.length
  have hm : ((Array.range (len * i.size)).map (z'.cells[· % z'.cells.size]!)).toList = (List.replicate len z'.cells.toList).flatten := by
    rw [hsz', ← hzs, Array.toList_map, Array.toList_range, map_mod _ (by omega)]
  obtain ⟨c, e', r, lf⟩ := fill_rel (place' := fun i => some (i * z.length, z.length)) he (fun i p h => h) ps.toList l _ cs ((Array.range (len * i.size)).map (z'.cells[· % z'.cells.size]!)) hp hf
    (by rw [hm]; exact LLRel.iff.1 (rep_rel lz len)) (by rw [hm]; exact rep_leaves lfz len)
  refine ⟨c, ?_, r, lf⟩
  have e'' : Instr.fill (fun x => some (x * i.size, i.size)) ((Array.range (len * i.size)).map (z'.cells[· % z'.cells.size]!)) (ps.map fun (i, x) => (i, a.eval x)).toList = some c := by
    rw [← e', hsz']
    congr 1
    simp
  by_cases h0 : len * i.size = 0
  · have hl0 : len = 0 := by
      rcases Nat.mul_eq_zero.1 h0 with h | h
      · exact h
      · omega
    subst hl0
    simp [Instr.buildSlice, run_underlying h1, sizeOf, typeInfo, hi, newRow, Array.range_zero']
    simp [Array.range_zero'] at e''
    rw [e'']
    simp
  · exact run_buildSlice w t e len _ c i z' h1 hi (zero_of hi hzv) (by rw [hsz']; omega) h0 e''

theorem bslice_run (hw : WRel P B w₀ G σ w) {t e : TypeId} {z : List AV} {len : Nat} (h1 : P.underlying t = some (.slice e)) (h2 : zcells P e = some z) (hz0 : 0 < z.length) (hsm : len * z.length ≤ 65536)
    {nt : Nat} {env : Env} {a : Act} (he : ERel G nt env a.tmps) {ps : Array (Nat × Operand)} {l : List (Nat × Nat × Opd)}
    (hp : parts (fun i => some (i * z.length, z.length)) ps.toList = some l) {cs : List AV} (hf : fillA (List.replicate len z).flatten (l.map fun p => (p.1, p.2.1, p.2.2.get env)) = some cs) (hcl : cs.length = len * z.length) :
    GoodV P B w₀ G σ (.sl (chunks z.length len cs) true) σ ((Instr.buildSlice t len (ps.map fun (i, x) => (i, a.eval x))).run P w) := by
  obtain ⟨c, e', r, lf⟩ := bslice_core h1 h2 hz0 hsm he hp hf w
  rw [e']
  obtain ⟨hle, hw'⟩ := hw.freezeNew c e (0, 0) c.toList (fun j v hj => by simpa using hj)
  refine ⟨_, _, _, rfl, hle, hw', ?_, .refl σ⟩
  refine ⟨w.heap.size, 0, len, z.length, c.toList, by simp, by simp, fun _ => by simp, chunks_uniform (by omega), ?_, lf, ?_⟩
  · intro j v hj
    simp only [Gh.freeze, Nat.zero_add, if_true]
    exact hj
  · rw [LLRel.iff, chunks_flatten (by omega), List.take_of_length_le (by omega)]
    exact r.mono hle

theorem brow_run (hw : WRel P B w₀ G σ w) {t e : TypeId} {z : List AV} {len : Nat} (h1 : P.underlying t = some (.slice e)) (h2 : zcells P e = some z) (hz0 : 0 < z.length) (hsm : len * z.length ≤ 65536)
    {nt : Nat} {env : Env} {a : Act} (he : ERel G nt env a.tmps) {ps : Array (Nat × Operand)} {l : List (Nat × Nat × Opd)}
    (hp : parts (fun i => some (i * z.length, z.length)) ps.toList = some l) {cs : List AV} (hf : fillA (List.replicate len z).flatten (l.map fun p => (p.1, p.2.1, p.2.2.get env)) = some cs) (hcl : cs.length = len * z.length) :
    GoodV P B w₀ G σ (.ref σ.heap.length 0 z.length 0 len false) (σ.push (.row 0 z.length e (chunks z.length len cs))) ((Instr.buildSlice t len (ps.map fun (i, x) => (i, a.eval x))).run P w) := by
  obtain ⟨c, e', r, lf⟩ := bslice_core h1 h2 hz0 hsm he hp hf w
  rw [e']
  have hrl := r.length
  refine new_row hw e (vs := c.toList) (post := []) (by simp) (chunks_uniform (by omega)) ?_ lf (cap := len) (by rw [← Array.length_toList]; omega) (by simp) len (by simp) rfl hw
  rw [LLRel.iff, chunks_flatten (by omega), List.take_of_length_le (by omega)]
  exact r

theorem fillA_length : ∀ {ps : List (Nat × Nat × AV)} {cs cs' : List AV}, fillA cs ps = some cs' → cs'.length = cs.length
  | [], cs, cs', h => by simp only [fillA, Option.some.injEq] at h; subst h; rfl
  | (off, n, v) :: ps, cs, cs', h => by
    simp only [fillA] at h
    split at h
    · rename_i hc
      rw [fillA_length h, splice_length (by omega)]
    · cases h

end Go.Den

/- Den: append. -/
namespace Go.Den
open Go Go.RowKit

variable {P : Program} {X : Ctx} {B : Nat} {w₀ : World}
variable {G : Gh} {σ : AS} {w : World}

/-- An object whose cells lie elsewhere now, or otherwise. -/
def Gh.turn (G : Gh) (id b base lim : Nat) : Gh :=
  { G with blk := fun i => if i = id then b else G.blk i, base := fun i => if i = id then base else G.base i, ver := fun i => if i = id then G.ver i + 1 else G.ver i, lim := fun i => if i = id then lim else G.lim i }

theorem Gh.le_turn (G : Gh) (id b base lim : Nat) : G.le (G.turn id b base lim) := by
  refine .mk' (fun _ _ _ h => h) (Nat.le_refl _) (fun _ _ => rfl) (fun i _ => ?_) (fun i _ h => ?_)
  · simp only [Gh.turn]; split <;> omega
  · simp only [Gh.turn] at h
    split at h
    · omega
    · rename_i hi; simp [Gh.turn, hi]

/-- What is put behind a slice. -/
structure Added (P : Program) (w : World) (sz : Nat) (xt : TypeId) (x' : Value) (n : Nat) (new : List Value) : Prop where
  len : (Builtin.lenOf x').run P w = .ok n w
  cells : ∀ w', w'.heap = w.heap → (Builtin.firstCells sz n x').run P w' = .ok new.toArray w'
  type : (∃ e, P.underlying xt = some (.slice e)) ∨ P.underlying xt = some .string

theorem append_place {t xt ty e : TypeId} {i : TypeInfo} (ht : P.underlying t = some (.slice e)) (hi : P.info? e = some i) {x' : Value} {n : Nat} {new : List Value} (ha : Added P w i.size xt x' n new)
    {base : Option Addr} {sLen sCap : Nat} (h : sLen + n ≤ sCap) {w' : World} (hs : ∀ a, base = some a → (storeCells (a.add (sLen * i.size)) new).run P w = .ok () w') (hn : base = none → w' = w) :
    (Builtin.append_ #[t, xt] ty #[.slice base sLen sCap, x']).run P w = .ok (.slice base (sLen + n) sCap) w' := by
  have hc := ha.cells w rfl
  cases base with
  | none =>
    have := hn rfl
    subst this
    rcases ha.type with ⟨e', hu⟩ | hu
    · simp [Builtin.append_, run_underlying ht, run_underlying hu, sizeOf, typeInfo, hi, ha.len, hc, h]
    · simp [Builtin.append_, run_underlying ht, run_underlying hu, sizeOf, typeInfo, hi, ha.len, hc, h]
  | some a =>
    have := hs a rfl
    rcases ha.type with ⟨e', hu⟩ | hu
    · simp [Builtin.append_, run_underlying ht, run_underlying hu, sizeOf, typeInfo, hi, ha.len, hc, h, this]
    · simp [Builtin.append_, run_underlying ht, run_underlying hu, sizeOf, typeInfo, hi, ha.len, hc, h, this]

theorem append_grow {t xt ty e : TypeId} {i : TypeInfo} {z : Value} (ht : P.underlying t = some (.slice e)) (hi : P.info? e = some i) (hz : i.zero = some z) {x' : Value} {n : Nat} {new : List Value} (ha : Added P w i.size xt x' n new)
    {base : Option Addr} {sLen sCap : Nat} (h : sCap < sLen + n) {old : List Value} (hold : ∀ w', w'.heap = w.heap → (Builtin.firstCells i.size sLen (.slice base sLen sCap)).run P w' = .ok old.toArray w') (hb : 0 < i.bytes) (hroom : (sLen + n) * i.bytes ≤ room) :
    (Builtin.append_ #[t, xt] ty #[.slice base sLen sCap, x']).run P w = .ok (.slice (some ⟨w.heap.size, 0, none⟩) (sLen + n) (grownCap w (sLen + n) sCap e))
      (w.drew.alloc (.cells (old.toArray ++ new.toArray ++ Builtin.zeroCells z.cells (grownCap w (sLen + n) sCap e - (sLen + n))) e)) := by
  have hn : ¬ (sLen + n ≤ sCap) := by omega
  have hfit := growslice_fits (bytes := i.bytes) h (by simp only [room] at hroom; omega)
  have h48' : ¬ (281474976710656 < Builtin.nextslicecap (sLen + n) sCap * i.bytes) := by omega
  have hb' : i.bytes ≠ 0 := by omega
  have hf := ha.cells w.drew rfl
  have hfo := hold w.drew rfl
  rcases ha.type with ⟨e', hu⟩ | hu
  · simp [Builtin.append_, run_underlying ht, run_underlying hu, sizeOf, typeInfo, zeroValue, hi, hz, ha.len, hn, h48', hb', Question.forced, hf, hfo, newRow, grownCap]
    congr 2; apply Array.ext'; simp [List.append_assoc]
  · simp [Builtin.append_, run_underlying ht, run_underlying hu, sizeOf, typeInfo, zeroValue, hi, hz, ha.len, hn, h48', hb', Question.forced, hf, hfo, newRow, grownCap]
    congr 2; apply Array.ext'; simp [List.append_assoc]

theorem grown_row (hw : WRel P B w₀ G σ w) {sz : Nat} {els : List (List AV)} {vs : List Value} {z : Value} {zc : Nat} (e : TypeId) (hzs : z.cells.size = sz) (hu : ∀ el ∈ els, el.length = sz) (hl : LLRel G els vs) (lf : Leaves vs) (need old : Nat) (hn : need = els.length) :
    GoodV P B w₀ G σ (.ref σ.heap.length 0 sz 0 need false) (σ.push (.row 0 sz e els)) (.ok (.slice (some ⟨w.heap.size, 0, none⟩) need (grownCap w need old e))
      (w.drew.alloc (.cells (vs.toArray ++ Builtin.zeroCells z.cells (grownCap w need old e - need)) e))) := by
  have hg := grownCap_ge w need old e
  refine new_row hw e (post := (Builtin.zeroCells z.cells (grownCap w need old e - need)).toList) (by simp) hu hl lf (cap := grownCap w need old e) ?_ (by omega) need hn rfl hw.drew
  have := hl.len hu
  simp only [Array.size_append, List.size_toArray, size_zeroCells, hzs, this, ← hn]
  rw [← Nat.add_mul]; congr 1; omega

theorem llrel_append {a b : List (List AV)} {u v : List Value} (h : LLRel G a u) (k : LLRel G b v) : LLRel G (a ++ b) (u ++ v) := by
  rw [LLRel.iff, List.flatten_append]
  exact (LLRel.iff.1 h).append (LLRel.iff.1 k)

theorem AS.Ext.turn {σ : AS} {id : Nat} {ver ver' sz sz' : Nat} {ty ty' : TypeId} {els els' : List (List AV)} {refs : Nat} (he : σ.heap[id]? = some (.row ver sz ty els)) (h : refsLL els' ≤ max (refsLL els) refs) : σ.Ext (σ.set id (.row ver' sz' ty' els') refs) :=
  .set he fun n hn hr => by simp only [AObj.le] at hn ⊢; omega

theorem append_core (hw : WRel P B w₀ G σ w) {t xt ty e : TypeId} {sz bytes : Nat} (h1 : P.underlying t = some (.slice e)) (h2 : sizeT P e = some sz) (h3 : bytesT P e = some bytes) (hz : (zcells P e).isSome = true) (hb : 0 < bytes)
    {s v : AV} {s' x' : Value} {ys : List (List AV)} {new : List Value} {σ' : AS} (hs : VRel G s s') (hl : LLRel G ys new) (lf : Leaves new) (ha : Added P w sz xt x' ys.length new)
    (h : appendA σ e sz bytes s ys = some (v, σ')) : GoodV P B w₀ G σ v σ' ((Builtin.append_ #[t, xt] ty #[s', x']).run P w) := by
  obtain ⟨i, hi, rfl⟩ := info_of_bytes h3
  have hsz : i.size = sz := by unfold sizeT at h2; simpa [hi] using h2
  subst hsz
  obtain ⟨zz, hzz⟩ := Option.isSome_iff_exists.1 hz
  obtain ⟨z', _, hzv, lz, _, hzl⟩ := zcells_rel hzz G w
  have hzi := zero_of hi hzv
  have hzs : z'.cells.size = i.size := by
    have : sizeT P e = some i.size := h2
    rw [this] at hzl
    rw [← Array.length_toList, lz.length]; exact (Option.some.inj hzl).symm
  unfold appendA at h
  split at h
  · rename_i hc
    obtain ⟨hpos, hall⟩ := hc
    have hu := all_len hall
    split at h
    · simp only [VRel] at hs
      subst hs
      split at h
      · rename_i hy
        cases h
        have hn : new = [] := by
          have := hl.len hu; rw [hy] at this; exact List.length_eq_zero_iff.1 (by simpa using this)
        rw [hy] at ha
        have := append_place (ty := ty) h1 hi ha (base := none) (sLen := 0) (sCap := 0) (by simp) (w' := w) (by simp) (fun _ => rfl)
        rw [this]
        exact ⟨G, w, _, rfl, G.le_refl, hw, by simp [VRel], .refl σ⟩
      · rename_i hy
        split at h
        · rename_i hr
          cases h
          rw [append_grow h1 hi hzi ha (by omega) (old := []) (fun w' _ => by simp [Builtin.firstCells]) hb (by simpa using hr)]
          have := grown_row (zc := 0) hw e hzs hu hl lf ys.length 0 rfl
          simpa using this
        · cases h
    · rename_i els
      have hs0 := hs
      simp only [VRel] at hs
      obtain ⟨b, o, cap, sz, vs, rfl, d1, d2, d3, hf, lf', hl'⟩ := hs
      have hcap := d2 trivial
      subst hcap
      split at h
      · rename_i hy
        cases h
        have hn : new = [] := by
          have := hl.len hu; rw [hy] at this; exact List.length_eq_zero_iff.1 (by simpa using this)
        rw [hy] at ha
        have := append_place (ty := ty) h1 hi ha (base := some ⟨b, o, none⟩) (sLen := els.length) (sCap := els.length) (by omega) (w' := w) (fun a _ => by rw [hn]; simp [storeCells]) (by simp)
        rw [this]
        exact ⟨G, w, _, rfl, G.le_refl, hw, hs0, .refl σ⟩
      · rename_i hy
        split at h
        · rename_i hr
          obtain ⟨hr, hall'⟩ := hr
          have hu' := all_len hall'
          cases h
          have hvl := hl'.len hu'
          rw [append_grow h1 hi hzi ha (by omega) (old := vs) (fun w' hh => by
            simp only [Builtin.firstCells]
            exact run_loadCells vs hvl (fun j u hj => by
              have := hw.frz _ _ _ (hf j u hj)
              simp only [World.cell?, hh] at this ⊢; exact this)) hb hr]
          have := grown_row (zc := 0) (els := els ++ ys) hw e hzs (fun el hel => (List.mem_append.1 hel).elim (hu' el) (hu el)) (llrel_append hl' hl) (lf'.append lf) (els.length + ys.length) els.length (by simp)
          simpa using this
        · cases h
    · rename_i els
      have hs0 := hs
      simp only [VRel] at hs
      obtain ⟨b, o, cap, sz, vs, rfl, d1, d2, d3, hf, lf', hl'⟩ := hs
      split at h
      · rename_i hy
        cases h
        have hn : new = [] := by
          have := hl.len hu; rw [hy] at this; exact List.length_eq_zero_iff.1 (by simpa using this)
        rw [hy] at ha
        have := append_place (ty := ty) h1 hi ha (base := some ⟨b, o, none⟩) (sLen := els.length) (sCap := cap) (by omega) (w' := w) (fun a _ => by rw [hn]; simp [storeCells]) (by simp)
        rw [this]
        exact ⟨G, w, _, rfl, G.le_refl, hw, hs0, .refl σ⟩
      · cases h
    · rename_i id ver sz₁ off len clip
      have hs0 := hs
      simp only [VRel] at hs
      obtain ⟨hid, hver, ad, cap, rfl, d1, d2, d3⟩ := hs
      split at h
      · rename_i v₀ sz' ty' els he
        split at h
        · rename_i hc
          obtain ⟨c1, c2, c3, c4, c5, c6⟩ := hc
          subst c1 c2 c3
          have c4 := c4.symm
          subst c4
          obtain ⟨g1, g2, g3, c, pre, vs, post, hb', hcl, hpre, hsize, hl', lf'⟩ := hw.obj id _ he hid.2
          obtain ⟨f1, f2, f3⟩ := d3 g1
          have hvl := hl'.len g3
          have hmul : off * i.size + len * i.size ≤ els.length * i.size := by rw [← Nat.add_mul]; exact Nat.mul_le_mul_right _ c5
          have hnl := hl.len hu
          have hold : ∀ w', w'.heap = w.heap → (Builtin.firstCells i.size len (.slice (some ad) len cap)).run P w' = .ok ((vs.drop (off * i.size)).take (len * i.size)).toArray w' := by
            intro w' hh
            simp only [Builtin.firstCells]
            by_cases h0 : len = 0
            · subst h0; simp [loadCells, loadCellsFrom]
            · rw [f2 (by omega)]
              refine run_loadCells _ (by simp; omega) (fun j u hj => ?_)
              have hcell : w'.cell? ⟨G.blk id, G.base id + off * i.size + j, none⟩ = c[G.base id + off * i.size + j]? := cell_of_row w' _ _ c e (0, 0) (by rw [hh]; exact hb')
              rw [hcell]
              rw [List.getElem?_take] at hj
              split at hj
              · rw [List.getElem?_drop] at hj
                have hlt := (List.getElem?_eq_some_iff.1 hj).1
                have : c.toList[G.base id + off * i.size + j]? = some u := by
                  rw [hcl, List.getElem?_append_right (by omega), List.getElem?_append_left (by omega), ← hj]
                  congr 1; omega
                simpa using this
              · cases hj
          have hue : ∀ el ∈ (els.drop off).take len ++ ys, el.length = i.size := fun el hel => (List.mem_append.1 hel).elim (fun h => g3 el (List.mem_of_mem_drop (List.mem_of_mem_take h))) (hu el)
          have hle' : LLRel G ((els.drop off).take len ++ ys) ((vs.drop (off * i.size)).take (len * i.size) ++ new) := llrel_append (hl'.slice g3) hl
          have lfe : Leaves ((vs.drop (off * i.size)).take (len * i.size) ++ new) := ((lf'.drop _).take _).append lf
          have hlen' : ((els.drop off).take len ++ ys).length = len + ys.length := by simp; omega
          split at h
          · rename_i hy
            cases h
            have hn : new = [] := by
              rw [hy] at hnl; exact List.length_eq_zero_iff.1 (by simpa using hnl)
            rw [hy] at ha
            have := append_place (ty := ty) h1 hi ha (base := some ad) (sLen := len) (sCap := cap) (by omega) (w' := w) (fun a _ => by rw [hn]; simp [storeCells]) (by simp)
            rw [this]
            exact ⟨G, w, _, rfl, G.le_refl, hw, hs0, .refl σ⟩
          · rename_i hy
            split at h
            · rename_i hcp
              cases h
              have hcap := d2 hcp
              rw [append_grow h1 hi hzi ha (by omega) hold hb c6]
              have := grown_row (zc := 0) hw e hzs hue hle' lfe (len + ys.length) cap hlen'.symm
              simpa using this
            · cases h
              have hrefs : refsLL ((els.drop off).take len ++ ys) ≤ max (refsLL els) (refsLL ys) := by
                rw [refsLL_flatten, refsLL_flatten (els := els), refsLL_flatten (els := ys), List.flatten_append, refsL_append, take_drop_flatten g3]
                have h1 := refsL_take (a := els.flatten.drop (off * i.size)) (n := len * i.size)
                have h2 := refsL_drop (a := els.flatten) (n := off * i.size)
                omega
              by_cases hfit : len + ys.length ≤ cap
              · have had := f2 (by omega)
                have hcm : len * i.size + new.length ≤ cap * i.size := by rw [hnl, ← Nat.add_mul]; exact Nat.mul_le_mul_right _ hfit
                have hst := run_storeCells (P := P) new c w (G.base id + off * i.size + len * i.size) 0 hb' (by omega) lf
                rw [append_place (ty := ty) h1 hi ha (base := some ad) hfit (w' := putB w (G.blk id) (.cells (putC c (G.base id + off * i.size + len * i.size) new) e (0, 0))) (fun a hae => by
                  cases hae
                  rw [had, add_addr]; simpa using hst) (by simp)]
                have hle := G.le_turn id (G.blk id) (G.base id + off * i.size) (G.lim id - off * i.size)
                refine ⟨G.turn id (G.blk id) (G.base id + off * i.size) (G.lim id - off * i.size), _, _, rfl, hle, ?_, ?_, .turn he hrefs⟩
                · refine hw.set hid _ _ hle rfl rfl (fun j _ hj => by simp [Gh.turn, hj]) (.inl (by simp [Gh.turn])) (by simp [Gh.turn]; exact (hw.low id hid).2) (fun k hk _ => putB_other hk) (by simp) rfl rfl rfl ?_
                  refine ⟨by simp [Gh.turn, g1], by simp [Gh.turn, g2], hue, putC c (G.base id + off * i.size + len * i.size) new, pre ++ vs.take (off * i.size), (vs.drop (off * i.size)).take (len * i.size) ++ new,
                    (vs ++ post).drop (off * i.size + (len * i.size + new.length)), ?_, ?_, ?_, ?_, hle'.mono hle, lfe⟩
                  · have : (G.turn id (G.blk id) (G.base id + off * i.size) (G.lim id - off * i.size)).blk id = G.blk id := by simp [Gh.turn]
                    rw [this]; exact putB_same (hw.low id hid).2
                  · rw [putC_toList _ _ _ (by omega), hcl, ← hpre, Nat.add_assoc]
                    rw [List.take_append, List.take_of_length_le (by omega : pre.length ≤ pre.length + (off * i.size + len * i.size)), Nat.add_sub_cancel_left, List.take_append_of_le_length (by omega)]
                    rw [Nat.add_assoc pre.length, List.drop_append, List.drop_eq_nil_of_le (by omega : pre.length ≤ pre.length + (off * i.size + len * i.size + new.length)), Nat.add_sub_cancel_left, List.nil_append]
                    rw [List.take_add]
                    simp [Nat.add_assoc]
                  · simp [Gh.turn, hpre]; omega
                  · simp [Gh.turn, hsize]; omega
                · refine ⟨hid, by simp [Gh.turn, g1], ad, cap, rfl, ⟨hfit, d1.2⟩, by simp, fun _ => ⟨by simp [Gh.turn, g2], fun _ => by simp [Gh.turn, had], by simp [Gh.turn]; omega⟩⟩
              · rw [append_grow h1 hi hzi ha (by omega) hold hb c6]
                have hg := grownCap_ge w (len + ys.length) cap e
                have hle := G.le_turn id w.heap.size 0 (grownCap w (len + ys.length) cap e * i.size)
                have hlow := (hw.low id hid).2
                refine ⟨G.turn id w.heap.size 0 (grownCap w (len + ys.length) cap e * i.size), _, _, rfl, hle, ?_, ?_, .turn he hrefs⟩
                · refine hw.set hid _ _ hle rfl rfl (fun j _ hj => by simp [Gh.turn, hj]) (.inr (by simp [Gh.turn])) (by simp [Gh.turn]) (fun k hk hlt => heap_alloc_old w.drew _ k hlt) (by simp) rfl rfl rfl ?_
                  refine ⟨by simp [Gh.turn, g1], by simp [Gh.turn, g2], hue, ((vs.drop (off * i.size)).take (len * i.size)).toArray ++ new.toArray ++ Builtin.zeroCells z'.cells (grownCap w (len + ys.length) cap e - (len + ys.length)), [], (vs.drop (off * i.size)).take (len * i.size) ++ new, (Builtin.zeroCells z'.cells (grownCap w (len + ys.length) cap e - (len + ys.length))).toList, ?_, ?_, by simp [Gh.turn], ?_, hle'.mono hle, lfe⟩
                  · have : (G.turn id w.heap.size 0 (grownCap w (len + ys.length) cap e * i.size)).blk id = w.heap.size := by simp [Gh.turn]
                    rw [this]; exact heap_alloc_new w.drew _
                  · simp
                  · have hvn : ((vs.drop (off * i.size)).take (len * i.size)).length = len * i.size := by simp; omega
                    simp only [Array.size_append, List.size_toArray, size_zeroCells, hzs, hvn, hnl, Gh.turn, if_true]
                    rw [← Nat.add_mul, ← Nat.add_mul, Nat.zero_add]; congr 1; omega
                · refine ⟨hid, by simp [Gh.turn, g1], _, _, rfl, ⟨hg, rfl⟩, by simp, fun _ => ⟨by simp [Gh.turn, g2], fun _ => by simp [Gh.turn], by simp [Gh.turn]⟩⟩
        · cases h
      · cases h
    · cases h
  · cases h

end Go.Den

/- Den: append as a builtin, maps, copy, clear, strings from a builder's bytes, iterators. -/
namespace Go.Den
open Go Go.RowKit

variable {P : Program} {X : Ctx} {B : Nat} {w₀ : World}
variable {G : Gh} {σ : AS} {w : World}

theorem append_run (hw : WRel P B w₀ G σ w) {t xt ty e e' : TypeId} {sz bytes : Nat} (h1 : P.underlying t = some (.slice e)) (hx1 : P.underlying xt = some (.slice e')) (h2 : sizeT P e = some sz) (h3 : bytesT P e = some bytes) (hz : (zcells P e).isSome = true) (hb : 0 < bytes)
    {s v x : AV} {s' x' : Value} {ys : List (List AV)} {σ' : AS} (hs : VRel G s s') (hx : VRel G x x') (hy : elems σ sz x = some ys) (h : appendA σ e sz bytes s ys = some (v, σ')) :
    GoodV P B w₀ G σ v σ' ((Builtin.append_ #[t, xt] ty #[s', x']).run P w) := by
  obtain ⟨vs, hl, lf, hu, hlen, ⟨a, cap, rfl, _⟩, hf⟩ := elems_load hw hx hy
  refine append_core hw h1 h2 h3 hz hb hs hl lf ⟨by simp [Builtin.lenOf], fun w' hh => ?_, .inl ⟨e', hx1⟩⟩ h
  have := hf w' hh ys.length (Nat.le_refl _)
  rwa [List.take_of_length_le (by omega)] at this

theorem bytesA_rel (l : List UInt8) : LLRel G (l.map fun x => [AV.int .u8 x.toNat]) (l.map fun x => Value.int .u8 x.toNat) := by
  induction l with
  | nil => simp [LLRel]
  | cons x xs ih => exact ⟨[_], _, rfl, by simp [LRel, VRel], ih⟩

theorem appends_run (hw : WRel P B w₀ G σ w) {t xt ty e : TypeId} (h1 : P.underlying t = some (.slice e)) (hx1 : P.underlying xt = some .string) (h2 : sizeT P e = some 1) (h3 : bytesT P e = some 1) (hz : (zcells P e).isSome = true)
    {s v : AV} {s' : Value} {b : ByteArray} {σ' : AS} (hs : VRel G s s') (h : appendA σ e 1 1 s (bytesA b) = some (v, σ')) :
    GoodV P B w₀ G σ v σ' ((Builtin.append_ #[t, xt] ty #[s', .string b]).run P w) := by
  have hlen : (bytesA b).length = b.size := by simp [bytesA]
  refine append_core (new := b.data.toList.map fun x => Value.int .u8 x.toNat) hw h1 h2 h3 hz (by decide) hs (bytesA_rel _) (fun v hv => ?_) ⟨by simp [Builtin.lenOf, hlen], fun w' hh => ?_, .inr hx1⟩ h
  · simp only [List.mem_map] at hv
    obtain ⟨x, _, rfl⟩ := hv
    rfl
  · rw [hlen]
    simp only [Builtin.firstCells, Sem.run_pure]
    congr 1
    apply Array.ext'
    simp

/-! Maps. -/

theorem keyKind_of {t : TypeId} {kk : EK} (h : keyKind P t = some kk) : ∃ u, P.underlying t = some u ∧ kindOk kk u ∧ (kk = .bool ∨ kk = .int ∨ kk = .str) := by
  unfold keyKind at h
  split at h
  · rename_i hu; cases h; exact ⟨_, hu, rfl, .inl rfl⟩
  · rename_i hu; cases h; exact ⟨_, hu, ⟨_, rfl⟩, .inr (.inl rfl)⟩
  · rename_i hu; cases h; exact ⟨_, hu, rfl, .inr (.inr rfl)⟩
  · cases h

theorem isKeyOf_key {kk : EK} {k : AV} (h : isKeyOf kk k = true) : isKey k = true := by
  cases kk <;> cases k <;> simp [isKeyOf] at h <;> rfl

theorem sameNow_rel {kk : EK} {u : TypeDesc} {k k₂ : AV} {k' k₂' : Value} {b : Bool} (hk : isKeyOf kk k = true) (hu : kindOk kk u) (h1 : VRel G k k') (h2 : VRel G k₂ k₂') (h : keyEq k k₂ = some b) :
    Instr.sameNow u k' k₂' = some b ∧ (b = true → Instr.sameBits 10000 k₂' k' = true) := by
  unfold keyEq at h
  split at h
  · split at h
    · rename_i e; subst e; cases h
      simp only [VRel] at h1 h2; subst h1 h2
      cases kk <;> simp [isKeyOf] at hk
      obtain ⟨q, rfl⟩ := hu
      refine ⟨by simp [Instr.sameNow], fun hb => ?_⟩
      have hb' := eq_of_beq hb
      subst hb'
      simp [Instr.sameBits]
    · cases h
  · cases h
    simp only [VRel] at h1 h2; subst h1 h2
    cases kk <;> simp [isKeyOf] at hk
    simp only [kindOk] at hu; subst hu
    refine ⟨by simp [Instr.sameNow], fun hb => ?_⟩
    rw [beq_toListBytes] at hb
    have hb' := eq_of_beq hb
    simp only [Instr.sameBits]
    rw [beq_toListBytes, hb']
    simp
  · cases h
    simp only [VRel] at h1 h2; subst h1 h2
    cases kk <;> simp [isKeyOf] at hk
    simp only [kindOk] at hu; subst hu
    refine ⟨by simp [Instr.sameNow], fun hb => ?_⟩
    have hb' := eq_of_beq hb
    subst hb'
    simp [Instr.sameBits]
  · cases h

theorem findNow_rel {kk : EK} {u : TypeDesc} {k : AV} {k' : Value} (hk : isKeyOf kk k = true) (hu : kindOk kk u) (h1 : VRel G k k') : ∀ (es : List (AV × AV)) (ms : List MapEntry) (i : Nat) (r : Option AV), MRel G es ms → findKeyA k es = some r →
    match r with
    | none => Instr.findNow u k' ms i = some none
    | some v => ∃ j v', Instr.findNow u k' ms i = some (some (j, v')) ∧ VRel G v v'
  | [], ms, i, r, hm, h => by
    simp only [MRel] at hm; subst hm
    simp only [findKeyA, Option.some.injEq] at h; subst h
    simp [Instr.findNow]
  | (k₂, v₂) :: es, ms, i, r, hm, h => by
    simp only [MRel] at hm
    obtain ⟨m, q, rfl, _, hk2, hv2, hm⟩ := hm
    simp only [findKeyA] at h
    split at h
    · rename_i he
      cases h
      have := (sameNow_rel hk hu h1 hk2 he).1
      exact ⟨i, m.val, by simp [Instr.findNow, this], hv2⟩
    · rename_i he
      have hs := (sameNow_rel hk hu h1 hk2 he).1
      have ih := findNow_rel hk hu h1 es q (i + 1) r hm h
      cases r with
      | none => simpa [Instr.findNow, hs] using ih
      | some v => simpa [Instr.findNow, hs] using ih
    · cases h

theorem checkKey_core {t : TypeId} {u : TypeDesc} (h : P.underlying t = some u) (hk : u = .bool ∨ (∃ k, u = .int k) ∨ u = .string) (b : Bool) (n : Nat) (v : Value) (w : World) : (Instr.checkKey b (n + 1) t v).run P w = .ok () w := by
  rcases hk with rfl | ⟨q, rfl⟩ | rfl <;> simp [Instr.checkKey, run_underlying h]

theorem checkKey_run {kk : EK} {t : TypeId} {u : TypeDesc} (h : P.underlying t = some u) (hk : kindOk kk u) (hkk : kk = .bool ∨ kk = .int ∨ kk = .str) (b : Bool) (v : Value) (w : World) : (Instr.checkKey b 10000 t v).run P w = .ok () w := by
  refine checkKey_core h ?_ b 9999 v w
  rcases hkk with rfl | rfl | rfl
  · exact .inl hk
  · exact .inr (.inl hk)
  · exact .inr (.inr hk)

theorem lookup_run (hw : WRel P B w₀ G σ w) {X : Ctx} (hg : GlobOk X B w₀) {t kt et : TypeId} {kk : EK} {z : AV} (h1 : P.underlying t = some (.map kt et)) (h2 : keyKind P kt = some kk) (h3 : zeroT P et = some z) {m k v : AV} {m' k' : Value} {ok : Bool} (hm : VRel G m m') (hk : VRel G k k')
    (h : lookupA X.gmap σ kk z m k ok = some v) : ∃ v', (Instr.lookup t m' k' ok).run P w = .ok v' w ∧ VRel G v v' := by
  obtain ⟨u, hu, hko, hkk⟩ := keyKind_of h2
  obtain ⟨z', ez, _, rz⟩ := zeroT_rel h3 G w
  unfold lookupA at h
  split at h
  · rename_i hkey
    split at h
    · rename_i es hes
      obtain ⟨es', ms, hms, hmr, hfind⟩ : ∃ (es' : List (AV × AV)) (ms : Array MapEntry), (m' = .map none ∧ ms = #[] ∨ ∃ r clock, m' = .map (some r) ∧ w.heap[r]? = some (.map ms clock)) ∧ MRel G es' ms.toList ∧ ∀ k v, findKeyA k es = some v → findKeyA k es' = some v := by
        unfold mapOf at hes
        split at hes
        · cases hes; simp only [VRel] at hm; subst hm
          exact ⟨[], #[], .inl ⟨rfl, rfl⟩, by simp [MRel], fun _ _ h => h⟩
        · rename_i g
          obtain ⟨es', r, ms, clock, e1, e2, e3, e4⟩ := hg.relM hw hes hm
          exact ⟨es', ms, .inr ⟨r, clock, e1, e2⟩, e3, e4⟩
        · rename_i id
          split at hes
          · rename_i es' he
            cases hes
            obtain ⟨g0, ms, clock, hb, hr⟩ := hw.obj id _ he hm.pz_mp
            simp only [VRel] at hm
            obtain ⟨_, r, rfl, hr'⟩ := hm
            have er := hr' g0
            subst er
            exact ⟨_, ms, .inr ⟨_, clock, rfl, hb⟩, hr, fun _ _ h => h⟩
          · cases hes
        · cases hes
      have core : ∀ (r : Option (Nat × Value)) (v : Value), Instr.findNow u k' ms.toList 0 = some r → (match r with | some (_, x) => v = x | none => (zeroValue et).run P w = .ok v w) →
          (Instr.lookup t m' k' ok).run P w = .ok (if ok then .tuple #[v, .bool r.isSome] else v) w := by
        intro r v hf hr
        have hck := fun b => checkKey_run hu hko hkk b k' w
        rcases hms with ⟨rfl, rfl⟩ | ⟨q, clock, rfl, hb⟩
        · cases r with
          | none => simp only at hr; cases ok <;> simp [Instr.lookup, run_underlying h1, hck, Instr.findKey, run_underlying hu, hr] <;> (simp at hf; simp [hf, hr])
          | some p => obtain ⟨j, x⟩ := p; simp only at hr; subst hr; simp [Instr.findNow] at hf
        · cases r with
          | none => simp only at hr; cases ok <;> simp [Instr.lookup, run_underlying h1, hck, Instr.findKey, run_underlying hu, hr, getObj, Sem.run, hb, hf]
          | some p => obtain ⟨j, x⟩ := p; simp only at hr; subst hr; cases ok <;> simp [Instr.lookup, run_underlying h1, hck, Instr.findKey, run_underlying hu, getObj, Sem.run, hb, hf]
      split at h
      · rename_i v₀ hf
        cases h
        obtain ⟨j, v', e, rv⟩ := findNow_rel hkey hko hk es' ms.toList 0 _ hmr (hfind _ _ hf)
        refine ⟨if ok then .tuple #[v', .bool true] else v', ?_, ?_⟩
        · exact core _ _ e rfl
        · cases ok
          · exact rv
          · exact ⟨_, rfl, ⟨_, _, rfl, rv, ⟨_, _, rfl, by simp [VRel], by simp [LRel]⟩⟩⟩
      · rename_i hf
        cases h
        have e := findNow_rel hkey hko hk es' ms.toList 0 _ hmr (hfind _ _ hf)
        refine ⟨if ok then .tuple #[z', .bool false] else z', ?_, ?_⟩
        · exact core _ _ e ez
        · cases ok
          · exact rz
          · exact ⟨_, rfl, ⟨_, _, rfl, rz, ⟨_, _, rfl, by simp [VRel], by simp [LRel]⟩⟩⟩
      · cases h
    · cases h
  · cases h

/-- Put into a map's entries. -/
theorem put_rel {kk : EK} {u : TypeDesc} {k v : AV} {k' v' : Value} (hk : isKeyOf kk k = true) (hu : kindOk kk u) (h1 : VRel G k k') (hv : VRel G v v') : ∀ (es es' : List (AV × AV)) (ms : List MapEntry) (i : Nat), MRel G es ms → putKeyA k v es = some es' →
    (Instr.findNow u k' ms i = some none ∧ ∀ born, MRel G es' (ms ++ [{ key := k', val := v', born }])) ∨
    ∃ j v₀ m, Instr.findNow u k' ms i = some (some (i + j, v₀)) ∧ ms[j]? = some m ∧ Instr.sameBits 10000 m.key k' = true ∧ MRel G es' (ms.modify j fun e => { e with key := k', val := v' })
  | [], es', ms, i, hm, h => by
    simp only [MRel] at hm; subst hm
    simp only [putKeyA, Option.some.injEq] at h; subst h
    exact .inl ⟨by simp [Instr.findNow], fun born => ⟨_, _, rfl, isKeyOf_key hk, h1, hv, by simp [MRel]⟩⟩
  | (k₂, v₂) :: es, es', ms, i, hm, h => by
    simp only [MRel] at hm
    obtain ⟨m, q, rfl, hik, hk2, hv2, hm⟩ := hm
    simp only [putKeyA] at h
    split at h
    · rename_i he
      cases h
      obtain ⟨hs, hb⟩ := sameNow_rel hk hu h1 hk2 he
      refine .inr ⟨0, m.val, m, by simp [Instr.findNow, hs], rfl, hb rfl, ?_⟩
      simp only [List.modify_zero_cons]
      exact ⟨_, _, rfl, isKeyOf_key hk, h1, hv, hm⟩
    · rename_i he
      obtain ⟨hs, _⟩ := sameNow_rel hk hu h1 hk2 he
      cases hp : putKeyA k v es with
      | none => simp [hp] at h
      | some es₁ =>
        simp only [hp, Option.map_some, Option.some.injEq] at h
        subst h
        rcases put_rel hk hu h1 hv es es₁ q (i + 1) hm hp with ⟨e1, e2⟩ | ⟨j, v₀, m', e1, e2, e3, e4⟩
        · refine .inl ⟨by simpa [Instr.findNow, hs] using e1, fun born => ⟨_, _, rfl, hik, hk2, hv2, e2 born⟩⟩
        · refine .inr ⟨j + 1, v₀, m', ?_, by simpa using e2, e3, ?_⟩
          · simp only [Instr.findNow, hs]; rw [e1]; congr 3; omega
          · simp only [List.modify_succ_cons]
            exact ⟨_, _, rfl, hik, hk2, hv2, e4⟩
    · cases h

theorem putKeyA_refs {k v : AV} {n : Nat} : ∀ {es es' : List (AV × AV)}, putKeyA k v es = some es' → (∀ p ∈ es, p.2.refs ≤ n) → v.refs ≤ n → ∀ p ∈ es', p.2.refs ≤ n
  | [], es', h, _, hv => by
    simp only [putKeyA, Option.some.injEq] at h; subst h
    intro p hp; simp at hp; subst hp; exact hv
  | (k₂, v₂) :: es, es', h, hes, hv => by
    simp only [putKeyA] at h
    split at h
    · cases h
      intro p hp
      rcases List.mem_cons.1 hp with rfl | hp
      · exact hv
      · exact hes p (by simp [hp])
    · cases hp : putKeyA k v es with
      | none => simp [hp] at h
      | some es₁ =>
        simp only [hp, Option.map_some, Option.some.injEq] at h
        subst h
        intro p hp'
        rcases List.mem_cons.1 hp' with rfl | hp'
        · exact hes _ (by simp)
        · exact putKeyA_refs hp (fun p h => hes p (by simp [h])) hv p hp'
    · cases h

theorem mput_run (hw : WRel P B w₀ G σ w) {t kt et : TypeId} {kk : EK} (h1 : P.underlying t = some (.map kt et)) (h2 : keyKind P kt = some kk) {m k v : AV} {m' k' v' : Value} {σ' : AS} (hm : VRel G m m') (hk : VRel G k k') (hv : VRel G v v')
    (h : mputA σ kk m k v = some σ') : GoodU P B w₀ G σ σ' ((Instr.mapUpdate t m' k' v').run P w) := by
  obtain ⟨u, hu, hko, hkk⟩ := keyKind_of h2
  unfold mputA at h
  split at h
  · rename_i hkey
    split at h
    · rename_i id
      split at h
      · rename_i es he
        split at h
        · rename_i es' hp
          cases h
          obtain ⟨g0, ms, clock, hb, hr⟩ := hw.obj id _ he hm.pz_mp
          have hid : G.on id := ⟨by rw [hw.len]; exact (List.getElem?_eq_some_iff.1 he).1, hm.pz_mp⟩
          simp only [VRel] at hm
          obtain ⟨_, r, rfl, hr'⟩ := hm
          rw [hr' g0]
          have hext : σ.Ext (σ.set id (.map es') v.refs) := .set he fun n hn hrf => putKeyA_refs hp hn hrf
          have hlt := (hw.low id hid).2
          rcases put_rel hkey hko hk hv es es' ms.toList 0 hr hp with ⟨e1, e2⟩ | ⟨j, v₀, m', e1, e2, e3, e4⟩
          · refine ⟨G, putB w (G.blk id) (.map (ms.push { key := k', val := v', born := clock }) (clock + 1)), ?_, G.le_refl, hw.put hid _ ⟨g0, _, _, putB_same hlt, by simpa using e2 clock⟩, hext⟩
            simp [Instr.mapUpdate, run_underlying h1, getObj, setObj, Sem.run, hb, checkKey_run hu hko hkk, Instr.findKey, run_underlying hu, e1, putB]
          · rw [Nat.zero_add] at e1
            have e2' : ms[j]? = some m' := by simpa using e2
            refine ⟨G, putB w (G.blk id) (.map (ms.modify j fun e => { e with key := k', val := v' }) clock), ?_, G.le_refl, hw.put hid _ ⟨g0, _, _, putB_same hlt, by simpa using e4⟩, hext⟩
            simp [Instr.mapUpdate, run_underlying h1, getObj, setObj, Sem.run, hb, checkKey_run hu hko hkk, Instr.findKey, run_underlying hu, e1, putB, Instr.keyThatStays, e2', e3]
        · cases h
      · cases h
    · cases h
  · cases h

/-! Iterators over strings. -/

theorem nxt_run (hw : WRel P B w₀ G σ w) (ty : TypeId) {id : Nat} {x' : Value} {s : ByteArray} {pos : Nat} (hx : VRel G (.ptr id 0) x') (he : σ.heap[id]? = some (.siter s pos)) :
    (pos < s.size → GoodV P B w₀ G σ (.tup [.bool true, .int .i64 pos, .int .i32 (Utf8.decode s pos).1]) (σ.set id (.siter s (pos + (Utf8.decode s pos).2)) 0) ((Instr.next x' true ty).run P w)) ∧
    (¬ pos < s.size → GoodV P B w₀ G σ (.tup [.bool false]) σ ((Instr.next x' true ty).run P w)) := by
  obtain ⟨g0, hb⟩ := hw.obj id _ he hx.pz_ptr
  have hid : G.on id := ⟨by rw [hw.len]; exact (List.getElem?_eq_some_iff.1 he).1, hx.pz_ptr⟩
  simp only [VRel] at hx
  obtain ⟨_, a, rfl, ha⟩ := hx
  rw [ha g0]
  refine ⟨fun hp => ?_, fun hp => ?_⟩
  · refine ⟨G, putB w (G.blk id) (.stringIter s (pos + (Utf8.decode s pos).2)), .tuple #[.bool true, goInt pos, .int .i32 (Utf8.decode s pos).1], ?_, G.le_refl, hw.put hid 0 ⟨g0, putB_same (hw.low id hid).2⟩, ?_, .set he fun _ _ _ => trivial⟩
    · simp [Instr.next, getObj, setObj, Sem.run, hb, hp, putB]
    · exact ⟨_, rfl, ⟨_, _, rfl, by simp [VRel], ⟨_, _, rfl, by simp [VRel, goInt], ⟨_, _, rfl, by simp [VRel], by simp [LRel]⟩⟩⟩⟩
  · refine ⟨G, w, .tuple #[.bool false], ?_, G.le_refl, hw, ⟨_, rfl, ⟨_, _, rfl, by simp [VRel], by simp [LRel]⟩⟩, .refl σ⟩
    simp [Instr.next, getObj, Sem.run, hb, hp]

end Go.Den

/- Den: copy, clear, a string over a builder's bytes. -/
namespace Go.Den
open Go Go.RowKit

variable {P : Program} {X : Ctx} {B : Nat} {w₀ : World}
variable {G : Gh} {σ : AS} {w : World}

theorem storeCells_at {a a' : Addr} {us : List Value} (h : us = [] ∨ a = a') : storeCells a us = storeCells a' us := by
  rcases h with rfl | rfl
  · simp [storeCells]
  · rfl

theorem refsLL_take {els : List (List AV)} {n : Nat} : refsLL (els.take n) ≤ refsLL els := by
  induction els generalizing n with
  | nil => simp [refsLL]
  | cons x xs ih =>
    cases n with
    | zero => simp [refsLL]
    | succ n => simp only [List.take_succ_cons, refsLL]; have := ih (n := n); omega

/-- Elements of a row become others. -/
theorem rows_put (hw : WRel P B w₀ G σ w) {id ver sz : Nat} {ty : TypeId} {els zs : List (List AV)} (he : σ.heap[id]? = some (.row ver sz ty els)) (hz : G.pz id = none) {us : List Value} {off : Nat} (hl : LLRel G zs us) (lf : Leaves us) (hu : ∀ el ∈ zs, el.length = sz) (h : off + zs.length ≤ els.length)
    {refs : Nat} (hr : refsLL zs ≤ refs) {a : Addr} (ha : us = [] ∨ a = ⟨G.blk id, G.base id + off * sz, none⟩) :
    GoodU P B w₀ G σ (σ.set id (.row ver sz ty (els.take off ++ (zs ++ els.drop (off + zs.length)))) refs) ((storeCells a us).run P w) := by
  rw [storeCells_at ha]
  obtain ⟨_, _, hu', _⟩ := hw.obj id _ he hz
  have hfl := flat_len hu'
  have hzl := flat_len hu
  have hm : off * sz + zs.length * sz ≤ els.length * sz := by rw [← Nat.add_mul]; exact Nat.mul_le_mul_right _ h
  refine row_put hw he hz (LLRel.iff.1 hl) lf (by omega) (fun el hel => ?_) ?_ (by rw [← refsLL_flatten]; exact hr)
  · simp only [List.mem_append] at hel
    rcases hel with h | h | h
    · exact hu' el (List.mem_of_mem_take h)
    · exact hu el h
    · exact hu' el (List.mem_of_mem_drop h)
  · rw [List.flatten_append, List.flatten_append, take_flatten hu', drop_flatten hu']
    unfold splice
    rw [hzl, Nat.add_mul]

theorem copy_run (hw : WRel P B w₀ G σ w) {t st ty e : TypeId} {sz : Nat} (h1 : P.underlying t = some (.slice e)) (h2 : sizeT P e = some sz) {d s v : AV} {d' s' : Value} {σ' : AS} (hd : VRel G d d') (hs : VRel G s s') (h : copyA σ sz d s = some (v, σ')) :
    GoodV P B w₀ G σ v σ' ((Builtin.copy_ #[t, st] ty #[d', s']).run P w) := by
  obtain ⟨i, hi, rfl⟩ := info_of_size h2
  unfold copyA at h
  split at h
  · rename_i ys hy
    have src : ∃ vs, LLRel G ys vs ∧ Leaves vs ∧ (∀ el ∈ ys, el.length = i.size) ∧ (Builtin.lenOf s').run P w = .ok ys.length w ∧ ∀ n, n ≤ ys.length → (Builtin.firstCells i.size n s').run P w = .ok (vs.take (n * i.size)).toArray w := by
      unfold srcA at hy
      split at hy
      · rename_i b
        split at hy
        · rename_i h1
          cases hy
          simp only [VRel] at hs; subst hs
          refine ⟨b.data.toList.map fun x => Value.int .u8 x.toNat, bytesA_rel _, ?_, ?_, by simp [Builtin.lenOf, bytesA], fun n hn => ?_⟩
          · intro v hv
            simp only [List.mem_map] at hv
            obtain ⟨x, _, rfl⟩ := hv
            rfl
          · intro el hel
            simp only [bytesA, List.mem_map] at hel
            obtain ⟨x, _, rfl⟩ := hel
            rw [h1]; rfl
          · rw [h1]
            simp only [Builtin.firstCells, Sem.run_pure]
            congr 1
            apply Array.ext'
            simp [List.map_take]
        · cases hy
      · obtain ⟨vs, hl, lf, hu, hlen, ⟨a, cap, rfl, _⟩, hf⟩ := elems_load hw hs hy
        exact ⟨vs, hl, lf, hu, by simp [Builtin.lenOf], fun n hn => hf w rfl n hn⟩
    obtain ⟨vs, hl, lf, hu, hlo, hf⟩ := src
    have key : ∀ (base : Option Addr) (dLen dCap : Nat), d' = .slice base dLen dCap → (Builtin.copy_ #[t, st] ty #[d', s']).run P w =
        ((match base with | some b => storeCells b (vs.take (Nat.min ys.length dLen * i.size)) | none => pure () : Sem Unit).run P w).andThen fun _ w' => .ok (goInt (Nat.min ys.length dLen)) w' := by
      rintro base dLen dCap rfl
      have := hf (Nat.min ys.length dLen) (Nat.min_le_left _ _)
      cases base <;> simp [Builtin.copy_, run_underlying h1, hlo, sizeOf, typeInfo, hi, this]
    split at h
    · cases h
      simp only [VRel] at hd
      rw [key none 0 0 hd]
      exact ⟨G, w, _, rfl, G.le_refl, hw, by simp [VRel, goInt], .refl σ⟩
    · rename_i id ver sz₁ off len clip
      split at h
      · rename_i v₀ sz' ty' els he
        split at h
        · rename_i hc
          obtain ⟨c1, c2, c3, c4⟩ := hc
          subst c1 c2 c3
          cases h
          simp only [VRel] at hd
          obtain ⟨hid, hver, ad, dcap, e1, d1, d2, d3⟩ := hd
          obtain ⟨f1, f2, f3⟩ := d3 (hw.obj id _ he hid.2).1
          rw [key (some ad) len dcap e1]
          have hn1 : Nat.min ys.length len ≤ ys.length := Nat.min_le_left ys.length len
          have hn2 : Nat.min ys.length len ≤ len := Nat.min_le_right ys.length len
          have htl : (ys.take (Nat.min ys.length len)).length = Nat.min ys.length len := by rw [List.length_take]; omega
          have hll : LLRel G (ys.take (Nat.min ys.length len)) (vs.take (Nat.min ys.length len * i.size)) := by
            have := hl.slice (l := 0) (n := Nat.min ys.length len) hu
            simpa using this
          obtain ⟨G', w', hr, hle, hw', hext⟩ := rows_put hw he hid.2 hll (lf.take _) (fun el hel => hu el (List.mem_of_mem_take hel)) (off := off) (by omega) (refs := refsLL ys) refsLL_take (a := ad) (by
            by_cases h0 : len = 0
            · left; have : Nat.min ys.length len = 0 := by omega
              rw [this]; simp
            · right; rw [f2 (by omega)])
          rw [hr, htl] at *
          exact ⟨G', w', _, rfl, hle, hw', by simp [VRel, goInt], hext⟩
        · cases h
      · cases h
    · rename_i id sz' off len
      split at h
      · rename_i cs he
        split at h
        · rename_i hc
          obtain ⟨c1, c2, c3⟩ := hc
          subst c1
          cases h
          simp only [VRel] at hd
          obtain ⟨hid, ad, dcap, e1, d1, d2⟩ := hd
          rw [key (some ad) len dcap e1]
          have hn1 : Nat.min ys.length len ≤ ys.length := Nat.min_le_left ys.length len
          have hn2 : Nat.min ys.length len ≤ len := Nat.min_le_right ys.length len
          have htl : (ys.take (Nat.min ys.length len)).flatten.length = Nat.min ys.length len * i.size := by rw [flat_len fun el hel => hu el (List.mem_of_mem_take hel), List.length_take]; congr 1; omega
          have hll : LRel G (ys.take (Nat.min ys.length len)).flatten (vs.take (Nat.min ys.length len * i.size)) := by
            rw [take_flatten hu]; exact (LLRel.iff.1 hl).take _
          have hmm : Nat.min ys.length len * i.size ≤ len * i.size := Nat.mul_le_mul_right _ hn2
          have hput := box_put hw he hid.2 hll (lf.take _) (off := off) (by omega) (refs := refsLL ys) (by rw [← refsLL_flatten]; exact refsLL_take)
          simp only
          rw [storeCells_at (a := ad) (a' := ⟨G.blk id, off, none⟩) (by
            by_cases h0 : len = 0
            · left; have : Nat.min ys.length len = 0 := by omega
              rw [this]; simp
            · right; exact d2 (cells_of_box hw he hid.2).1 (by omega))]
          obtain ⟨G', w', hr, hle, hw', hext⟩ := hput
          rw [hr]
          exact ⟨G', w', _, rfl, hle, hw', by simp [VRel, goInt], hext⟩
        · cases h
      · cases h
    · cases h
  · cases h

theorem zeroCells_list (zc : Array Value) (k : Nat) : (Builtin.zeroCells zc k).toList = (List.replicate k zc.toList).flatten := by
  unfold Builtin.zeroCells
  rw [Array.toList_map, Array.toList_range]
  by_cases h0 : 0 < zc.size
  · exact map_mod zc h0 k
  · have h1 : zc.size = 0 := by omega
    have h2 : zc.toList = [] := List.length_eq_zero_iff.1 (by rw [Array.length_toList]; exact h1)
    rw [h1, h2]; simp

theorem clear_run (hw : WRel P B w₀ G σ w) {t ty e : TypeId} {z : List AV} (h1 : P.underlying t = some (.slice e)) (h2 : zcells P e = some z) {x : AV} {x' : Value} {σ' : AS} (hx : VRel G x x') (h : clearA σ z x = some σ') :
    GoodV P B w₀ G σ .undef σ' ((Builtin.clear_ #[t] ty #[x']).run P w) := by
  obtain ⟨z', ez, _, lz, lfz, _⟩ := zcells_rel h2 G w
  have key : ∀ (a : Addr) (n c : Nat), x' = .slice (some a) n c → (Builtin.clear_ #[t] ty #[x']).run P w =
      ((storeCells a (List.replicate n z'.cells.toList).flatten).run P w).andThen fun _ w' => .ok (.tuple #[]) w' := by
    rintro a n c rfl
    cases n with
    | zero => simp [Builtin.clear_, run_underlying h1, storeCells]
    | succ n =>
      have := zeroCells_list z'.cells (n + 1)
      simp only [Builtin.clear_, Sem.run_bind, run_underlying h1, Result.andThen_ok, ez]
      simp [run_underlying h1, ez, ← this]
  unfold clearA at h
  split at h
  · cases h
    simp only [VRel] at hx
    subst hx
    exact ⟨G, w, .tuple #[], by simp [Builtin.clear_, run_underlying h1], G.le_refl, hw, ⟨_, rfl, by simp [LRel]⟩, .refl σ⟩
  · rename_i id ver sz₁ off len clip
    split at h
    · rename_i v₀ sz' ty' els he
      split at h
      · rename_i hc
        obtain ⟨c1, c2, c3, c4, c5⟩ := hc
        subst c1 c2 c3
        cases h
        simp only [VRel] at hx
        obtain ⟨hid, hver, ad, dcap, e1, d1, d2, d3⟩ := hx
        obtain ⟨f1, f2, f3⟩ := d3 (hw.obj id _ he hid.2).1
        rw [key ad len dcap e1]
        obtain ⟨G', w', hr, hle, hw', hext⟩ := rows_put hw he hid.2 (rep_rel lz len) (rep_leaves lfz len) (fun el hel => by rw [List.eq_of_mem_replicate hel]) (off := off) (by simpa using c4) (refs := 0) (by
            rw [refsLL_flatten]
            have : ∀ n, refsL (List.replicate n z).flatten ≤ 0 := by
              intro n
              induction n with
              | zero => simp [refsL]
              | succ n ih => simp only [List.replicate_succ, List.flatten_cons, refsL_append]; omega
            exact this len) (a := ad) (by
          by_cases h0 : len = 0
          · left; rw [h0]; simp
          · right; rw [f2 (by omega)])
        rw [hr]
        rw [List.length_replicate] at hw' hext
        exact ⟨G', w', _, rfl, hle, hw', ⟨_, rfl, by simp [LRel]⟩, hext⟩
      · cases h
    · cases h
  · rename_i id sz off len
    split at h
    · rename_i cs he
      split at h
      · rename_i hc
        obtain ⟨c1, c2, c3⟩ := hc
        subst c1
        cases h
        simp only [VRel] at hx
        obtain ⟨hid, ad, dcap, e1, d1, d2⟩ := hx
        rw [key ad len dcap e1]
        have hrl := rep_rel lz len
        have hfl : (List.replicate len z).flatten.length = len * z.length := by rw [flat_len (sz := z.length) fun el hel => by rw [List.eq_of_mem_replicate hel]]; simp
        have hput := box_put hw he hid.2 (LLRel.iff.1 hrl) (rep_leaves lfz len) (off := off) (by omega) (refs := 0) (by
            have : ∀ n, refsL (List.replicate n z).flatten ≤ 0 := by
              intro n
              induction n with
              | zero => simp [refsL]
              | succ n ih => simp only [List.replicate_succ, List.flatten_cons, refsL_append]; omega
            exact this len)
        rw [storeCells_at (a := ad) (a' := ⟨G.blk id, off, none⟩) (by
          by_cases h0 : len = 0
          · left; rw [h0]; simp
          · right; exact d2 (cells_of_box hw he hid.2).1 (by omega))]
        obtain ⟨G', w', hr, hle, hw', hext⟩ := hput
        rw [hr]
        exact ⟨G', w', _, rfl, hle, hw', ⟨_, rfl, by simp [LRel]⟩, hext⟩
      · cases h
    · cases h
  · cases h

/-! unsafe.SliceData, unsafe.String. -/

theorem usd_nil (ts : Array TypeId) (ty : TypeId) (w : World) : (Builtin.unsafeSliceData_ ts ty #[.slice none 0 0]).run P w = .ok (.pointer none) w := rfl

theorem usd_run {ts : Array TypeId} {ty : TypeId} {id ver off len : Nat} {clip : Bool} {x' : Value} (hx : VRel G (.ref id ver 1 off len clip) x') (h : 0 < len) (w : World) :
    ∃ v', (Builtin.unsafeSliceData_ ts ty #[x']).run P w = .ok v' w ∧ VRel G (.rptr id ver off 0) v' := by
  simp only [VRel] at hx
  obtain ⟨hid, hver, ad, cap, rfl, d1, d2, d3⟩ := hx
  refine ⟨.pointer (some ad), Go.Lib.run_unsafeSliceData_row w ts ty ad len cap (by omega), hid, hver, ad, rfl, fun hv => ?_⟩
  obtain ⟨f1, f2, f3⟩ := d3 hv
  rw [f2 (by omega), f1]; rfl

theorem liesAt_one {e : TypeId} (hc : P.cellsOf e = 1) (count off n : Nat) (hn : off + n ≤ count) : liesAt P P.depth e count off e n = true := by
  have hd : P.depth = (2 * (P.types.size + Made.depth) + 1) + 1 := rfl
  rw [hd]
  simp only [liesAt, Bool.or_eq_true]
  left
  rw [hd]
  simp [rowAt, hc, hn, sameLayout, Nat.mod_one]

theorem loadBytes_run {w : World} : ∀ (ns : List Int) (b o : Nat) (acc : ByteArray), (∀ (j : Nat) (u : Value), (ns.map (Value.int .u8))[j]? = some u → w.cell? ⟨b, o + j, none⟩ = some u) →
    (loadBytes ⟨b, o, none⟩ acc ns.length).run P w = .ok ⟨acc.data ++ (ns.map fun n => UInt8.ofNat n.toNat).toArray⟩ w
  | [], b, o, acc, _ => by simp [loadBytes]
  | n :: ns, b, o, acc, h => by
    have h0 : w.cell? ⟨b, o, none⟩ = some (.int .u8 n) := by
      have := h 0 (.int .u8 n) rfl
      simpa using this
    have ih := loadBytes_run ns b (o + 1) (acc.push n.toNat.toUInt8) (fun j u hj => by
      have := h (j + 1) u (by simpa using hj)
      rw [show o + 1 + j = o + (j + 1) by omega]; exact this)
    simp only [List.length_cons, loadBytes, Sem.run_bind, run_load, h0, Result.andThen_ok, add_addr]
    rw [ih]
    congr 1
    apply ByteArray.ext
    simp [ByteArray.push]

theorem ustr_nil {pt it ty : TypeId} {k : IntKind} (w : World) : (Builtin.unsafeString_ #[pt, it] ty #[.pointer none, .int k 0]).run P w = .ok (.string .empty) w := by
  have hmax : IntKind.i64.max = 9223372036854775807 := rfl
  have hdef : Builtin.unsafeString_ #[pt, it] ty #[.pointer none, .int k 0] =
      (do
        let n ← asInt (.int k 0)
        if n < 0 then runtimePanic (.error "unsafe.String: len out of range")
        if n > IntKind.i64.max then unsupported (.unsafePointer "String: a length above the largest int")
        if n = 0 then pure (.string .empty)
        else runtimePanic (.error "unsafe.String: ptr is nil and len is not zero")) := rfl
  rw [hdef]
  simp [asInt, asIntOf, hmax]

theorem size_freeze (w : World) (a : Addr) (n : Nat) : (w.freeze a n).heap.size = w.heap.size := by
  unfold World.freeze; split <;> simp

theorem freeze_other {w : World} {a : Addr} {n k : Nat} (h : k ≠ a.block) : (w.freeze a n).heap[k]? = w.heap[k]? := by
  unfold World.freeze
  split
  · rfl
  · simp [Array.getElem?_modify, Ne.symm h]

theorem freeze_world (w : World) (a : Addr) (n : Nat) : (w.freeze a n).os = w.os ∧ (w.freeze a n).tape = w.tape ∧ (w.freeze a n).output = w.output := by
  unfold World.freeze; split <;> exact ⟨rfl, rfl, rfl⟩

theorem ustr_run (hw : WRel P B w₀ G σ w) {pt it ty e : TypeId} (hp : P.underlying pt = some (.pointer e)) {k : IntKind} {id ver i : Nat} {n : Int} {els : List (List AV)} {l : List UInt8} {p' : Value} (hx : VRel G (.rptr id ver i 0) p')
    (he : σ.heap[id]? = some (.row ver 1 e els)) (hsz : sizeT P e = some 1) (h0 : 0 < n) (hle : i + n ≤ els.length) (hroom : n ≤ room) (hs : stringA ((els.drop i).take n.toNat) = some l) :
    GoodV P B w₀ G σ (.str ⟨l.toArray⟩) (σ.set id .dead 0) ((Builtin.unsafeString_ #[pt, it] ty #[p', .int k n]).run P w) := by
  obtain ⟨g1, g2, g3, c, pre, vs, post, hb, hcl, hpre, hsize, hl, lf⟩ := hw.obj id _ he hx.pz_rptr
  have hid : G.on id := ⟨by rw [hw.len]; exact (List.getElem?_eq_some_iff.1 he).1, hx.pz_rptr⟩
  simp only [VRel] at hx
  obtain ⟨_, _, a, rfl, ha⟩ := hx
  have ha := ha g1
  rw [g2, Nat.mul_one, Nat.add_zero] at ha
  subst ha
  have hvl := hl.len g3
  have hsl := hl.slice (l := i) (n := n.toNat) g3
  obtain ⟨ns, e1, rfl⟩ := stringA_rel hsl hs
  simp only [Nat.mul_one] at e1
  have hnl : ns.length = n.toNat := by
    have := congrArg List.length e1
    simp at this; omega
  have hcells : P.cellsOf e = 1 := by
    unfold Program.cellsOf
    unfold sizeT at hsz
    rw [hsz]; rfl
  have hsh : w.shape? (G.blk id) = some (e, c.size) := by unfold World.shape?; rw [hb]
  have hcs : c.size = pre.length + (vs.length + post.length) := by rw [← Array.length_toList, hcl]; simp
  have hlies := liesAt_one (P := P) hcells (c.size / P.cellsOf e) (G.base id + i) n.toNat (by rw [hcells, Nat.div_one]; omega)
  have hlb := loadBytes_run (P := P) (w := w) ns (G.blk id) (G.base id + i) .empty (fun j u hj => by
    refine cell_of_block hb _ u ?_
    rw [← e1] at hj
    rw [List.getElem?_take] at hj
    split at hj
    · rw [List.getElem?_drop] at hj
      have hlt := (List.getElem?_eq_some_iff.1 hj).1
      rw [hcl, List.getElem?_append_right (by omega), List.getElem?_append_left (by omega), ← hj]
      congr 1; omega
    · cases hj)
  rw [hnl] at hlb
  have hmax : IntKind.i64.max = 9223372036854775807 := rfl
  have q1 : ¬ n < 0 := by omega
  have q2 : ¬ (9223372036854775807 : Int) < n := by simp only [room] at hroom; omega
  have q3 : ¬ n = 0 := by omega
  have hdef : Builtin.unsafeString_ #[pt, it] ty #[.pointer (some ⟨G.blk id, G.base id + i, none⟩), .int k n] =
      (do
        let n ← asInt (.int k n)
        if n < 0 then runtimePanic (.error "unsafe.String: len out of range")
        if n > IntKind.i64.max then unsupported (.unsafePointer "String: a length above the largest int")
        if n = 0 then pure (.string .empty)
        else if ← variablesAt ⟨G.blk id, G.base id + i, none⟩ (← elemOf pt) n.toNat then do
          let s ← loadBytes ⟨G.blk id, G.base id + i, none⟩ .empty n.toNat
          Go.freeze ⟨G.blk id, G.base id + i, none⟩ n.toNat
          pure (.string s)
        else unsupported (.unsafePointer "String: not so many bytes at ptr")) := rfl
  have hrun : (Builtin.unsafeString_ #[pt, it] ty #[.pointer (some ⟨G.blk id, G.base id + i, none⟩), .int k n]).run P w =
      .ok (.string ⟨(ns.map fun n => UInt8.ofNat n.toNat).toArray⟩) (w.freeze ⟨G.blk id, G.base id + i, none⟩ n.toNat) := by
    rw [hdef]
    have e0 : ByteArray.empty.data = #[] := rfl
    rw [e0] at hlb
    simp [asInt, asIntOf, hmax, q1, q2, q3, variablesAt, hsh, elemOf, run_underlying hp, hlies, hlb]
  rw [hrun]
  obtain ⟨f1, f2, f3⟩ := freeze_world w ⟨G.blk id, G.base id + i, none⟩ n.toNat
  refine ⟨G, _, _, rfl, G.le_refl, hw.set hid .dead 0 G.le_refl rfl rfl (fun _ _ _ => rfl) (.inl rfl) (by rw [size_freeze]; exact (hw.low id hid).2) (fun k hk _ => freeze_other hk) (by rw [size_freeze]; exact Nat.le_refl _) f1 f2 f3 trivial, by simp [VRel], .set he fun _ _ _ => trivial⟩

end Go.Den

/- Den: one operation, but no call. -/
namespace Go.Den
open Go Go.RowKit

variable {P : Program} {X : Ctx} {B : Nat} {w₀ : World}
variable {G : Gh} {σ : AS} {w : World}

theorem good_pure {s : Sem Value} {v : AV} (hw : WRel P B w₀ G σ w) (h : ∃ v', s.run P w = .ok v' w ∧ VRel G v v') : Good P B w₀ G σ v σ ((do pure (.value (← s)) : Sem Next).run P w) := by
  obtain ⟨v', e, r⟩ := h
  simp only [Sem.run_bind, e, Result.andThen_ok, Sem.run_pure]
  exact .same hw r

theorem good_v {s : Sem Value} {v : AV} {σ' : AS} (h : GoodV P B w₀ G σ v σ' (s.run P w)) : Good P B w₀ G σ v σ' ((do pure (.value (← s)) : Sem Next).run P w) := by
  obtain ⟨G', w', v', e, h1, h2, h3, h4⟩ := h
  simp only [Sem.run_bind, e, Result.andThen_ok, Sem.run_pure]
  exact ⟨G', w', v', .inl rfl, h1, h2, h3, h4⟩

theorem good_u {s : Sem Unit} {σ' : AS} (h : GoodU P B w₀ G σ σ' (s.run P w)) : Good P B w₀ G σ .undef σ' ((do s; pure .skip : Sem Next).run P w) := by
  obtain ⟨G', w', e, h1, h2, h3⟩ := h
  simp only [Sem.run_bind, e, Result.andThen_ok, Sem.run_pure]
  exact ⟨G', w', undef, .inr ⟨rfl, rfl⟩, h1, h2, ⟨#[], rfl, by simp [LRel]⟩, h3⟩

theorem okv_some {σ σ' : AS} {o : Option AV} {v : AV} (h : okv σ o = some (.ok v σ')) : o = some v ∧ σ' = σ := by
  cases o with
  | none => simp [okv] at h
  | some a => simp [okv] at h; exact ⟨by rw [h.1], h.2.symm⟩

theorem opdO_rel {nt : Nat} {e : Env} {a : Act} (he : ERel G nt e a.tmps) {x : Option Operand} {y : Option Opd} (h : opdO x = some y) : ORelO G (y.map (·.get e)) (x.map a.eval) := by
  cases x with
  | none => simp only [opdO, Option.some.injEq] at h; subst h; simp [ORelO]
  | some x =>
    simp only [opdO] at h
    cases hx : opd x with
    | none => simp [hx] at h
    | some z => simp [hx] at h; subst h; exact ⟨_, rfl, opd_rel he hx⟩

theorem opdO_none {x : Option Operand} {y : Option Opd} (h : opdO x = some y) : y.isNone = x.isNone := by
  cases x with
  | none => simp only [opdO, Option.some.injEq] at h; subst h; rfl
  | some x =>
    simp only [opdO] at h
    cases hx : opd x with
    | none => simp [hx] at h
    | some z => simp [hx] at h; subst h; rfl

/-- An instruction that is neither a call nor a panic. -/
def I.plain : I → Bool
  | .call .. | .panic _ => false
  | _ => true

section
variable (hw : WRel P B w₀ G σ w) (hg : GlobOk X B w₀) {nt : Nat} {e : Env} {a : Act} (he : ERel G nt e a.tmps) (C : Caller)
include hw hg he

omit hg in
theorem call_sound {type : TypeId} {c : Call} {i : I} (h : prepCall P type c = some i) (hp : i.plain = true) {v : AV} {σ' : AS} (hx : exec X C i e σ = some (.ok v σ')) :
    Good P B w₀ G σ v σ' ((do let d ← resolve a.eval c type; invoke d.target d.args : Sem Next).run P w) := by
  obtain ⟨callee, args, argTypes⟩ := c
  unfold prepCall at h
  split at h
  case h_1 =>
    split at h
    · cases h; simp [I.plain] at hp
    · cases h
  case h_2 t x hc ht ha =>
    simp only at hc ht ha
    subst hc
    have ea : args = #[x] := by apply Array.ext'; simpa using ha
    have et : argTypes = #[t] := by apply Array.ext'; simpa using ht
    subst ea et
    have hres : (do let d ← resolve a.eval ⟨.builtin .len, #[x], #[t]⟩ type; invoke d.target d.args : Sem Next) = (do pure (.value (← Builtin.len_ #[t] type ((#[x] : Array Operand).map a.eval)))) := rfl
    rw [hres, show (#[x] : Array Operand).map a.eval = #[a.eval x] by simp]
    split at h
    · rename_i hu
      cases ho : opd x with
      | none => simp [ho] at h
      | some y =>
        simp only [ho, Option.map_some, Option.some.injEq] at h; subst h
        obtain ⟨h1, rfl⟩ := okv_some hx
        exact good_pure hw (len_run (k := .str) hw hu rfl (opd_rel he ho) h1)
    · rename_i hu
      cases ho : opd x with
      | none => simp [ho] at h
      | some y =>
        simp only [ho, Option.map_some, Option.some.injEq] at h; subst h
        obtain ⟨h1, rfl⟩ := okv_some hx
        exact good_pure hw (len_run (k := .sl) hw hu ⟨_, rfl⟩ (opd_rel he ho) h1)
    · rename_i hu
      cases ho : opd x with
      | none => simp [ho] at h
      | some y =>
        simp only [ho, Option.map_some, Option.some.injEq] at h; subst h
        obtain ⟨h1, rfl⟩ := okv_some hx
        exact good_pure hw (len_run (k := .map) hw hu ⟨_, _, rfl⟩ (opd_rel he ho) h1)
    · rename_i hu
      cases h
      cases hx
      exact good_pure hw (exInt (by simp [Builtin.len_, run_underlying hu, goInt]))
    · cases h
  case h_3 st xt s x hc ht ha =>
    simp only at hc ht ha
    subst hc
    have ea : args = #[s, x] := by apply Array.ext'; simpa using ha
    have et : argTypes = #[st, xt] := by apply Array.ext'; simpa using ht
    subst ea et
    have hres : (do let d ← resolve a.eval ⟨.builtin .append, #[s, x], #[st, xt]⟩ type; invoke d.target d.args : Sem Next) = (do pure (.value (← Builtin.append_ #[st, xt] type ((#[s, x] : Array Operand).map a.eval)))) := rfl
    rw [hres, show (#[s, x] : Array Operand).map a.eval = #[a.eval s, a.eval x] by simp]
    split at h
    · rename_i el hu
      split at h
      · rename_i sz b sy xy hs1 hs2 hs3 hs4
        split at h
        · rename_i el' hux
          split at h
          · rename_i hb
            cases h
            simp only [exec] at hx
            split at hx
            · rename_i ys hy
              split at hx
              · rename_i v' σ'' ha'
                cases hx
                exact good_v (append_run hw hu hux hs1 hs2 hb.2 hb.1 (opd_rel he hs3) (opd_rel he hs4) hy ha')
              · cases hx
            · cases hx
          · cases h
        · rename_i hux
          split at h
          · rename_i hub
            split at h
            · rename_i hb
              obtain ⟨rfl, rfl, hz⟩ := hb
              cases h
              simp only [exec] at hx
              split at hx
              · rename_i bs hbs
                split at hx
                · rename_i v' σ'' ha'
                  cases hx
                  have hr := opd_rel he hs4
                  rw [hbs] at hr
                  simp only [VRel] at hr
                  rw [hr]
                  exact good_v (appends_run hw hu hux hs1 hs2 hz (opd_rel he hs3) ha')
                · cases hx
              · cases hx
            · cases h
          · cases h
        · cases h
      · cases h
    · cases h
  case h_4 dt st d s hc ht ha =>
    simp only at hc ht ha
    subst hc
    have ea : args = #[d, s] := by apply Array.ext'; simpa using ha
    have et : argTypes = #[dt, st] := by apply Array.ext'; simpa using ht
    subst ea et
    have hres : (do let d ← resolve a.eval ⟨.builtin .copy, #[d, s], #[dt, st]⟩ type; invoke d.target d.args : Sem Next) = (do pure (.value (← Builtin.copy_ #[dt, st] type ((#[d, s] : Array Operand).map a.eval)))) := rfl
    rw [hres, show (#[d, s] : Array Operand).map a.eval = #[a.eval d, a.eval s] by simp]
    split at h
    · rename_i el hu
      split at h
      · rename_i sz dy sy h1 h2 h3
        cases h
        simp only [exec] at hx
        split at hx
        · rename_i v' σ'' hc'
          cases hx
          exact good_v (copy_run hw hu h1 (opd_rel he h2) (opd_rel he h3) hc')
        · cases hx
      · cases h
    · cases h
  case h_5 t x hc ht ha =>
    simp only at hc ht ha
    subst hc
    have ea : args = #[x] := by apply Array.ext'; simpa using ha
    have et : argTypes = #[t] := by apply Array.ext'; simpa using ht
    subst ea et
    have hres : (do let d ← resolve a.eval ⟨.builtin .unsafeSliceData, #[x], #[t]⟩ type; invoke d.target d.args : Sem Next) = (do pure (.value (← Builtin.unsafeSliceData_ #[t] type ((#[x] : Array Operand).map a.eval)))) := rfl
    rw [hres, show (#[x] : Array Operand).map a.eval = #[a.eval x] by simp]
    split at h
    · cases ho : opd x with
      | none => simp [ho] at h
      | some y =>
        simp only [ho, Option.map_some, Option.some.injEq] at h; subst h
        have hr := opd_rel he ho
        simp only [exec] at hx
        split at hx
        · rename_i hy
          cases hx
          rw [hy] at hr
          simp only [VRel] at hr
          rw [hr]
          exact good_pure hw ⟨_, usd_nil _ _ w, by simp [VRel]⟩
        · rename_i hy
          split at hx
          · rename_i hc'
            obtain ⟨c1, c2⟩ := hc'
            subst c2
            cases hx
            rw [hy] at hr
            exact good_pure hw (usd_run hr c1 w)
          · cases hx
        · cases hx
    · cases h
  case h_6 pt rest p n hc ht ha =>
    simp only at hc ht ha
    subst hc
    have ea : args = #[p, n] := by apply Array.ext'; simpa using ha
    subst ea
    split at h
    · rename_i el hu
      split at h
      · rename_i py ny hue h2 h3
        split at h
        · rename_i hcc
          obtain ⟨hsz, hrl⟩ := hcc
          obtain ⟨it, hrest⟩ := List.length_eq_one_iff.1 hrl
          cases h
          have et : argTypes = #[pt, it] := by apply Array.ext'; rw [ht, hrest]
          subst et
          have hres : (do let d ← resolve a.eval ⟨.builtin .unsafeString, #[p, n], #[pt, it]⟩ type; invoke d.target d.args : Sem Next) = (do pure (.value (← Builtin.unsafeString_ #[pt, it] type ((#[p, n] : Array Operand).map a.eval)))) := rfl
          rw [hres, show (#[p, n] : Array Operand).map a.eval = #[a.eval p, a.eval n] by simp]
          have hr1 := opd_rel he h2
          have hr2 := opd_rel he h3
          simp only [exec] at hx
          split at hx
          · rename_i k m e1 e2
            split at hx
            · rename_i hm
              subst hm
              cases hx
              rw [e1] at hr1; rw [e2] at hr2
              simp only [VRel] at hr1 hr2
              rw [hr1, hr2]
              exact good_pure hw ⟨_, ustr_nil w, by simp [VRel]⟩
            · cases hx
          · rename_i id ver i k m e1 e2
            split at hx
            · rename_i v₀ ty' els hheap
              split at hx
              · rename_i hcc
                obtain ⟨c1, c2, c3, c4, c5⟩ := hcc
                subst c1 c2
                split at hx
                · rename_i l hl
                  cases hx
                  rw [e1] at hr1; rw [e2] at hr2
                  simp only [VRel] at hr2
                  rw [hr2]
                  exact good_v (ustr_run hw hu hr1 hheap hsz c3 c4 c5 hl)
                · cases hx
              · cases hx
            · cases hx
          · cases hx
        · cases h
      · cases h
    · cases h
  case h_7 t x hc ht ha =>
    simp only at hc ht ha
    subst hc
    have ea : args = #[x] := by apply Array.ext'; simpa using ha
    have et : argTypes = #[t] := by apply Array.ext'; simpa using ht
    subst ea et
    have hres : (do let d ← resolve a.eval ⟨.builtin .clear, #[x], #[t]⟩ type; invoke d.target d.args : Sem Next) = (do pure (.value (← Builtin.clear_ #[t] type ((#[x] : Array Operand).map a.eval)))) := rfl
    rw [hres, show (#[x] : Array Operand).map a.eval = #[a.eval x] by simp]
    split at h
    · rename_i el hu
      split at h
      · rename_i z y h1 h2
        cases h
        simp only [exec] at hx
        split at hx
        · rename_i σ'' hc'
          cases hx
          exact good_v (clear_run hw hu h1 (opd_rel he h2) hc')
        · cases hx
      · cases h
    · cases h
  case h_8 xs hc =>
    simp only at hc
    subst hc
    have hres : (do let d ← resolve a.eval ⟨.builtin .max, args, argTypes⟩ type; invoke d.target d.args : Sem Next) = (do pure (.value (← Builtin.max_ argTypes type (args.map a.eval)))) := rfl
    rw [hres]
    split at h
    · cases ho : opds args.toList with
      | none => simp [ho] at h
      | some ys =>
        simp only [ho, Option.map_some, Option.some.injEq] at h; subst h
        obtain ⟨h1, rfl⟩ := okv_some hx
        exact good_pure hw (max_run (by simpa using opds_rel he ho) h1 w)
    · cases h
  case h_9 xs hc =>
    simp only at hc
    subst hc
    have hres : (do let d ← resolve a.eval ⟨.builtin .min, args, argTypes⟩ type; invoke d.target d.args : Sem Next) = (do pure (.value (← Builtin.min_ argTypes type (args.map a.eval)))) := rfl
    rw [hres]
    split at h
    · cases ho : opds args.toList with
      | none => simp [ho] at h
      | some ys =>
        simp only [ho, Option.map_some, Option.some.injEq] at h; subst h
        obtain ⟨h1, rfl⟩ := okv_some hx
        exact good_pure hw (min_run (by simpa using opds_rel he ho) h1 w)
    · cases h
  case h_10 t x hc ht ha =>
    simp only at hc ht ha
    subst hc
    have ea : args = #[x] := by apply Array.ext'; simpa using ha
    have et : argTypes = #[t] := by apply Array.ext'; simpa using ht
    subst ea et
    have hres : (do let d ← resolve a.eval ⟨.builtin .cap, #[x], #[t]⟩ type; invoke d.target d.args : Sem Next) = (do pure (.value (← Builtin.cap_ #[t] type ((#[x] : Array Operand).map a.eval)))) := rfl
    rw [hres, show (#[x] : Array Operand).map a.eval = #[a.eval x] by simp]
    split at h
    · rename_i hu
      cases ho : opd x with
      | none => simp [ho] at h
      | some y =>
        simp only [ho, Option.map_some, Option.some.injEq] at h; subst h
        obtain ⟨h1, rfl⟩ := okv_some hx
        exact good_pure hw (cap_run hu (opd_rel he ho) h1 w)
    · cases h
  case h_11 => cases h

theorem exec_sound {rows : Bool} {o : Oper} {i : I} (h : prepOp P rows o = some i) (hp : i.plain = true) {v : AV} {σ' : AS} (hx : exec X C i e σ = some (.ok v σ')) : Good P B w₀ G σ v σ' ((execOp a.eval o).run P w) := by
  unfold prepOp at h
  split at h
  case h_1 x hop | h_2 x hop =>
    simp only [hop, execOp]
    cases ho : opd x with
    | none => simp [ho] at h
    | some y =>
      simp only [ho, Option.map_some, Option.some.injEq] at h; subst h
      cases hx
      simp only [Sem.run_pure]
      exact .same hw (opd_rel he ho)
  case h_3 c x y hop =>
    simp only [hop, execOp]
    split at h
    · rename_i c' x' y' h1 h2 h3
      cases h
      simp only [exec] at hx
      split at hx
      · rename_i t ht
        cases hx
        have hr := opd_rel he h1
        rw [ht] at hr
        simp only [VRel] at hr
        simp only [Sem.run_bind, hr, asBool, Sem.run_pure, Result.andThen_ok]
        cases t
        · exact .same hw (opd_rel he h3)
        · exact .same hw (opd_rel he h2)
      · cases hx
    · cases h
  case h_4 t hop =>
    simp only [hop, execOp]
    cases hz : zcells P t with
    | none => simp [hz] at h
    | some z =>
      simp only [hz, Option.map_some, Option.some.injEq] at h; subst h
      cases hx
      exact good_v (alloc_run hw hz)
  case h_5 t x hop =>
    simp only [hop, execOp]
    cases ho : opd x with
    | none => simp [ho] at h
    | some y =>
      simp only [ho, Option.map_some, Option.some.injEq] at h; subst h
      simp only [exec] at hx
      split at hx
      · cases hx
      · rename_i ht
        cases hx
        exact good_v (box_run hw (fun t' h => tagB_eq h) (opd_rel he ho) (by simpa using ht))
  case h_6 t ps hop =>
    simp only [hop, execOp]
    split at h
    · rename_i fields z hu hz
      split at h
      · rename_i hall
        obtain ⟨l, hpt, rfl⟩ := Option.map_eq_some_iff.1 h
        simp only [exec] at hx
        split at hx
        · rename_i cs hf
          cases hx
          exact good_pure hw (built_struct hu hz hall he hpt hf w)
        · cases hx
      · cases h
    · rename_i n el z hu hz
      split at h
      · rename_i sz hs
        cases hpt : parts (fun i => some (i * sz, sz)) ps.toList with
        | none => simp [hpt] at h
        | some l =>
          simp only [hpt, Option.map_some, Option.some.injEq] at h; subst h
          simp only [exec] at hx
          split at hx
          · rename_i cs hf
            cases hx
            exact good_pure hw (built_array hu hz hs he hpt hf w)
          · cases hx
      · cases h
    · cases h
  case h_7 t len ps hop =>
    simp only [hop, execOp]
    split at h
    · rename_i el hu
      split at h
      · rename_i z hz
        split at h
        · rename_i hc
          obtain ⟨hsm, hz0⟩ := hc
          cases hpt : parts (fun i => some (i * z.length, z.length)) ps.toList with
          | none => simp [hpt] at h
          | some l =>
            simp only [hpt, Option.map_some, Option.some.injEq] at h
            have hrep : ∀ k, (List.replicate k z).flatten.length = k * z.length := fun k => by
              rw [flat_len (sz := z.length) fun el hel => by rw [List.eq_of_mem_replicate hel]]; simp
            cases rows with
            | true =>
              simp only [if_true] at h; subst h
              simp only [exec] at hx
              split at hx
              · rename_i cs hf
                cases hx
                exact good_v (brow_run hw hu hz hz0 hsm he hpt hf (by rw [fillA_length hf, hrep]))
              · cases hx
            | false =>
              simp only [Bool.false_eq_true, if_false] at h; subst h
              simp only [exec] at hx
              split at hx
              · rename_i cs hf
                cases hx
                exact good_v (bslice_run hw hu hz hz0 hsm he hpt hf (by rw [fillA_length hf, hrep]))
              · cases hx
        · cases h
      · cases h
    · cases h
  case h_8 t x hop =>
    simp only [hop, execOp]
    split at h
    · rename_i b n y h1 h2 h3
      cases h
      obtain ⟨h4, rfl⟩ := okv_some hx
      exact good_pure hw (loadA_run hw hg h1 h2 (opd_rel he h3) h4)
    · cases h
  case h_9 t x y hop =>
    simp only [hop, execOp]
    split at h
    · rename_i n x' y' h1 h2 h3
      cases h
      simp only [exec] at hx
      split at hx
      · rename_i σ'' hs
        cases hx
        exact good_u (store_run hw h1 (opd_rel he h2) (opd_rel he h3) hs)
      · cases hx
    · cases h
  case h_10 x hop =>
    simp only [hop, execOp]
    cases ho : opd x with
    | none => simp [ho] at h
    | some y =>
      simp only [ho, Option.map_some, Option.some.injEq] at h; subst h
      obtain ⟨h4, rfl⟩ := okv_some hx
      have hr := opd_rel he ho
      obtain ⟨rfl, hsh⟩ := nilck_run hr h4
      rcases hsh with ⟨b, e1⟩ | ⟨f, b, c, e1⟩ | ⟨f, b, c, e1⟩ <;> rw [e1] at hr ⊢ <;> simp only [Sem.run_pure] <;> exact .same hw hr
  case h_11 op t x y g hop =>
    simp only [hop, execOp]
    split at h
    · rename_i x' y' h1 h2
      have hr1 := opd_rel he h1
      have hr2 := opd_rel he h2
      split at h
      case h_1 | h_2 =>
        cases h
        simp only [exec] at hx
        split at hx
        · rename_i k p k' q e1 e2
          obtain ⟨h4, rfl⟩ := okv_some hx
          rw [e1] at hr1; rw [e2] at hr2
          simp only [VRel] at hr1 hr2
          rw [hr1, hr2]
          refine good_pure hw ?_
          obtain ⟨v', e3, r⟩ := shf_run (P := P) (G := G) (t := t) (k' := k') h4 w
          exact ⟨v', by simp [eqGuard, e3], r⟩
        · cases hx
      case h_3 =>
        cases hk : eqKind P t x y with
        | none => simp [hk] at h
        | some k =>
          simp only [hk, Option.map_some, Option.some.injEq] at h; subst h
          simp only [exec] at hx
          split at hx
          · rename_i b hb
            cases hx
            obtain ⟨e1, e2, _, _⟩ := eq_run hk hr1 hr2 hb w
            exact good_pure hw (exBool (by simp [e1, e2]))
          · cases hx
      case h_4 =>
        cases hk : eqKind P t x y with
        | none => simp [hk] at h
        | some k =>
          simp only [hk, Option.map_some, Option.some.injEq] at h; subst h
          simp only [exec] at hx
          split at hx
          · rename_i b hb
            cases hx
            obtain ⟨_, _, e1, e2⟩ := eq_run hk hr1 hr2 hb w
            exact good_pure hw (exBool (by simp [e1, e2]))
          · cases hx
      case h_5 =>
        cases h
        rename_i op _ _ _ n1 n2 n3 n4 _
        obtain ⟨h4, rfl⟩ := okv_some hx
        obtain ⟨v', e3, r⟩ := bin_run (P := P) (t := t) hr1 hr2 h4 n3 n4 w
        have hgd : (eqGuard op t x y (a.eval x) (a.eval y)).run P w = .ok () w := by
          cases op <;> first | exact absurd rfl n3 | exact absurd rfl n4 | simp [eqGuard]
        exact good_pure hw ⟨v', by simp [hgd, e3], r⟩
      case h_6 =>
        cases h
        rename_i op _ _ n3 n4 _
        obtain ⟨h4, rfl⟩ := okv_some hx
        obtain ⟨v', e3, r⟩ := bin_run (P := P) (t := t) hr1 hr2 h4 n3 n4 w
        have hgd : (eqGuard op t x y (a.eval x) (a.eval y)).run P w = .ok () w := by
          cases op <;> first | exact absurd rfl n3 | exact absurd rfl n4 | simp [eqGuard]
        exact good_pure hw ⟨v', by simp [hgd, e3], r⟩
      case h_7 => cases h
    · cases h
  case h_12 op t x hop =>
    simp only [hop, execOp]
    cases ho : opd x with
    | none => simp [ho] at h
    | some y =>
      simp only [ho, Option.map_some, Option.some.injEq] at h; subst h
      obtain ⟨h4, rfl⟩ := okv_some hx
      exact good_pure hw (un_run (opd_rel he ho) h4 w)
  case h_13 src dst x hop =>
    simp only [hop, execOp]
    split at h
    · rename_i k kd y hs hd ho
      cases h
      simp only [exec] at hx
      split at hx
      · rename_i k' n hn
        cases hx
        have hr := opd_rel he ho
        rw [hn] at hr
        simp only [VRel] at hr
        rw [hr]
        exact good_pure hw (exInt (conv_run (by simp [hs]) hd w))
      · cases hx
    · rename_i y hs hd ho
      cases h
      simp only [exec] at hx
      split at hx
      · rename_i s hn
        cases hx
        have hr := opd_rel he ho
        rw [hn] at hr
        simp only [VRel] at hr
        rw [hr]
        exact good_pure hw (exStr (convs_run hs hd w))
      · cases hx
    · rename_i el y hs hd ho
      split at h
      · rename_i hel
        cases h
        simp only [exec] at hx
        split at hx
        · rename_i s hn
          split at hx
          · cases hx
            have hr := opd_rel he ho
            rw [hn] at hr
            simp only [VRel] at hr
            rw [hr]
            exact good_v (s2b_run hw hs hd hel s)
          · cases hx
        · cases hx
      · cases h
    · rename_i el y hs hd ho
      split at h
      · rename_i hel
        cases h
        simp only [exec] at hx
        split at hx
        · rename_i els hels
          split at hx
          · rename_i l hl
            cases hx
            exact good_pure hw (exStr (b2s_run hw hs hd hel (opd_rel he ho) hels hl))
          · cases hx
        · cases hx
      · cases h
    · cases h
  case h_14 t x hop =>
    simp only [hop, execOp]
    split at h
    · cases h
    · cases h
    · rename_i u hni hu
      cases ho : opd x with
      | none => simp [ho] at h
      | some y =>
        simp only [ho, Option.map_some, Option.some.injEq] at h; subst h
        cases hx
        exact good_pure hw ⟨_, mki_run hu (fun ms e => hni ms e) _ w, ⟨_, rfl, opd_rel he ho⟩⟩
  case h_15 f first cap hop =>
    simp only [hop, execOp]
    split at h
    · rename_i xs ys h1 h2
      split at h
      · cases h
      · rename_i hy
        cases h
        cases hx
        refine good_pure hw ⟨_, by simp only [Instr.makeFunc, Sem.run_pure]; rfl, ⟨f, _, _, rfl, ?_, by simpa using opds_rel he h1, by simpa using opds_rel he h2⟩⟩
        cases f <;> simp [isYield] at hy <;> simp [fnRel]
    · cases h
  case h_16 t hop =>
    simp only [hop, execOp]
    cases h
    cases hx
    exact good_v (mkmap_run hw t)
  case h_17 t l c hop =>
    simp only [hop, execOp]
    split at h
    · rename_i el hu
      split at h
      · rename_i z b l' c' h1 h2 h3 h4
        split at h
        · rename_i hc
          cases h
          simp only [exec] at hx
          split at hx
          · rename_i v' σ'' hm
            cases hx
            exact good_v (mkslice_run hw hu h1 h2 hc.1 (opd_rel he h3) (opd_rel he h4) hm)
          · cases hx
        · cases h
      · cases h
    · cases h
  case h_18 t x lo hi mx hop =>
    simp only [hop, execOp]
    split at h
    · rename_i x' lo' hi' mx' h1 h2 h3 h4
      split at h
      · rename_i hu
        split at h
        · rename_i hm
          cases h
          obtain ⟨h5, rfl⟩ := okv_some hx
          have hmn : mx = none := by
            have := opdO_none h4; rw [hm] at this; simpa using this.symm
          subst hmn
          exact good_pure hw (slstr_run hu (opd_rel he h1) (opdO_rel he h2) (opdO_rel he h3) h5 w)
        · cases h
      · rename_i el hu
        split at h
        · rename_i hm
          cases hs : sizeT P el with
          | none => simp [hs] at h
          | some n =>
            simp only [hs, Option.map_some, Option.some.injEq] at h; subst h
            obtain ⟨h5, rfl⟩ := okv_some hx
            refine good_pure hw (slsl_run hu hs (opd_rel he h1) (opdO_rel he h2) (opdO_rel he h3) (opdO_rel he h4) ?_ h5 w)
            cases mx' with
            | none => exact .inl rfl
            | some m =>
              right
              cases hi' with
              | none => simp at hm
              | some q => simp
        · cases h
      · rename_i n el hu
        split at h
        · rename_i hm
          cases hs : sizeT P el with
          | none => simp [hs] at h
          | some sz =>
            simp only [hs, Option.map_some, Option.some.injEq] at h; subst h
            obtain ⟨h5, rfl⟩ := okv_some hx
            have hmn : mx = none := by
              have := opdO_none h4; rw [hm] at this; simpa using this.symm
            subst hmn
            exact good_pure hw (slarr_run hw hg hu hs (opd_rel he h1) (opdO_rel he h2) (opdO_rel he h3) h5)
        · cases h
      · cases h
    · cases h
  case h_19 s x f hop =>
    simp only [hop, execOp]
    split at h
    · rename_i fields y hu ho
      split at h
      · rename_i g hgf
        split at h
        · rename_i n hn
          split at h
          · rename_i hpos
            cases h
            obtain ⟨h5, rfl⟩ := okv_some hx
            exact good_pure hw (faddr_run hw hg hu hgf hn hpos (opd_rel he ho) h5)
          · cases h
        · cases h
      · cases h
    · cases h
  case h_20 s x f hop =>
    simp only [hop, execOp]
    split at h
    · rename_i fields y hu ho
      split at h
      · rename_i g hgf
        split at h
        · rename_i b n h1 h2
          cases h
          simp only [exec] at hx
          split at hx
          · rename_i cs hcs
            obtain ⟨h5, rfl⟩ := okv_some hx
            have hr := opd_rel he ho
            rw [hcs] at hr
            exact good_pure hw (fld_run hu hgf h1 h2 hr h5 w)
          · cases hx
        · cases h
      · cases h
    · cases h
  case h_21 t x ix hop =>
    simp only [hop, execOp]
    split at h
    · rename_i n el y iy hu h1 h2
      cases hs : sizeT P el with
      | none => simp [hs] at h
      | some sz =>
        simp only [hs, Option.map_some, Option.some.injEq] at h; subst h
        obtain ⟨h5, rfl⟩ := okv_some hx
        exact good_pure hw (iaddra_run hw hg hu hs (opd_rel he h1) (opd_rel he h2) h5)
    · rename_i el y iy hu h1 h2
      cases hs : sizeT P el with
      | none => simp [hs] at h
      | some sz =>
        simp only [hs, Option.map_some, Option.some.injEq] at h; subst h
        obtain ⟨h5, rfl⟩ := okv_some hx
        exact good_pure hw (iaddrs_run hu hs (opd_rel he h1) (opd_rel he h2) h5)
    · cases h
  case h_22 t x ix hop =>
    simp only [hop, execOp]
    split at h
    · rename_i n el y iy hu h1 h2
      split at h
      · rename_i b sz h3 h4
        cases h
        obtain ⟨h5, rfl⟩ := okv_some hx
        exact good_pure hw (idxa_run hu h3 h4 (opd_rel he h1) (opd_rel he h2) h5 w)
      · cases h
    · rename_i y iy hu h1 h2
      cases h
      obtain ⟨h5, rfl⟩ := okv_some hx
      exact good_pure hw (idxs_run hu (opd_rel he h1) (opd_rel he h2) h5 w)
    · cases h
  case h_23 t m k ok hop =>
    simp only [hop, execOp]
    split at h
    · rename_i kt et hu
      split at h
      · rename_i kk z m' k' h1 h2 h3 h4
        cases h
        obtain ⟨h5, rfl⟩ := okv_some hx
        exact good_pure hw (lookup_run hw hg hu h1 h2 (opd_rel he h3) (opd_rel he h4) h5)
      · cases h
    · cases h
  case h_24 t m k x hop | h_25 t m k x hop =>
    simp only [hop, execOp]
    split at h
    · rename_i kt et hu
      split at h
      · rename_i kk m' k' x' h1 h2 h3 h4
        cases h
        simp only [exec] at hx
        split at hx
        · rename_i σ'' hm
          cases hx
          exact good_u (mput_run hw hu h1 (opd_rel he h2) (opd_rel he h3) (opd_rel he h4) hm)
        · cases hx
      · cases h
    · cases h
  case h_26 x xt asserted ok hop =>
    simp only [hop, execOp]
    split at h
    · rename_i want y hu ho
      split at h
      · rename_i hz
        cases h
        obtain ⟨h5, rfl⟩ := okv_some hx
        exact good_pure hw (tai_run hu hz (opd_rel he ho) h5 xt w)
      · cases h
    · rename_i u y hni hu ho
      split at h
      · rename_i z hz
        cases h
        obtain ⟨h5, rfl⟩ := okv_some hx
        exact good_pure hw (ta_run hu (fun ms e => hni ms e) hz (opd_rel he ho) h5 xt w)
      · cases h
    · cases h
  case h_27 t x hop =>
    simp only [hop, execOp]
    split at h
    · rename_i hu
      cases ho : opd x with
      | none => simp [ho] at h
      | some y =>
        simp only [ho, Option.map_some, Option.some.injEq] at h; subst h
        simp only [exec] at hx
        split at hx
        · rename_i s hs
          cases hx
          have hr := opd_rel he ho
          rw [hs] at hr
          simp only [VRel] at hr
          rw [hr]
          exact good_v (rng_run hw hu s)
        · cases hx
    · cases h
  case h_28 x hop =>
    simp only [hop, execOp]
    cases ho : opd x with
    | none => simp [ho] at h
    | some y =>
      simp only [ho, Option.map_some, Option.some.injEq] at h; subst h
      simp only [exec] at hx
      split at hx
      · rename_i id hid
        split at hx
        · rename_i s pos hheap
          have hr := opd_rel he ho
          rw [hid] at hr
          obtain ⟨r1, r2⟩ := nxt_run hw o.type hr hheap
          split at hx
          · rename_i hlt
            cases hx
            exact good_v (r1 hlt)
          · rename_i hlt
            cases hx
            exact good_v (r2 hlt)
        · cases hx
      · cases hx
  case h_29 x j hop =>
    simp only [hop, execOp]
    cases ho : opd x with
    | none => simp [ho] at h
    | some y =>
      simp only [ho, Option.map_some, Option.some.injEq] at h; subst h
      simp only [exec] at hx
      split at hx
      · rename_i vs hvs
        obtain ⟨h5, rfl⟩ := okv_some hx
        have hr := opd_rel he ho
        rw [hvs] at hr
        exact good_pure hw (ext_run (x := .tup vs) hr h5 w)
      · cases hx
  case h_30 c hop =>
    simp only [hop, execOp]
    exact call_sound hw he C h hp hx
  case h_31 x hop =>
    cases ho : opd x with
    | none => simp [ho] at h
    | some y => simp only [ho, Option.map_some, Option.some.injEq] at h; subst h; simp [I.plain] at hp
  case h_32 => cases h

end
end Go.Den

/- Den: what a call leaves behind. -/
namespace Go.Den
open Go Go.RowKit

variable {P : Program} {X : Ctx} {B : Nat} {w₀ : World}

open Classical in
/-- The ghost at a call's end: of n objects; the blocks of the others are never written again. -/
noncomputable def Gh.cut (G : Gh) (n : Nat) (w : World) : Gh :=
  { G with n := n, frz := fun b o => if ∃ id, n ≤ id ∧ G.on id ∧ G.blk id = b then w.cell? ⟨b, o, none⟩ else G.frz b o }

theorem cut_frz {G : Gh} {σ : AS} {w : World} (hw : WRel P B w₀ G σ w) {n b o : Nat} {v : Value} (h : G.frz b o = some v) : (G.cut n w).frz b o = some v := by
  simp only [Gh.cut]
  split
  · rename_i h'
    obtain ⟨id, _, h2, rfl⟩ := h'
    rw [hw.sep id h2] at h; cases h
  · exact h

theorem cut_agree {G : Gh} {σ : AS} {w : World} (hw : WRel P B w₀ G σ w) {n : Nat} : G.agree n (G.cut n w) :=
  ⟨fun _ _ _ h => cut_frz hw h, Nat.le_refl _, fun _ _ => rfl, fun _ _ => rfl, fun _ _ => rfl, fun _ _ => rfl, fun _ _ => rfl, fun _ _ => rfl⟩

theorem cut_old {G : Gh} {n id : Nat} {w : World} (h1 : n ≤ id) (h2 : G.on id) (o : Nat) : (G.cut n w).frz (G.blk id) o = w.cell? ⟨G.blk id, o, none⟩ := by
  simp only [Gh.cut]
  rw [if_pos ⟨id, h1, h2, rfl⟩]

/-- What is left refers to nothing that is dropped. -/
theorem WRel.cut {G : Gh} {σ : AS} {w : World} (hw : WRel P B w₀ G σ w) {n : Nat} (hn : n ≤ G.n) (hle : ∀ j o, j < n → σ.heap[j]? = some o → o.le n) (lo : Option Nat) : WRel P B w₀ (G.cut n w) { heap := σ.heap.take n, lo } w where
  len := by
    have := hw.len
    simp [Gh.cut]; omega
  frz b o v h := by
    simp only [Gh.cut] at h
    split at h
    · exact h
    · exact hw.frz b o v h
  obj id o h hz := by
    simp only [List.getElem?_take] at h
    split at h
    · rename_i hlt
      exact ORel.agree (cut_agree hw) hlt rfl (hw.obj id o h hz) (hle id o hlt h)
    · cases h
  inj i j hi hj e := hw.inj i j ⟨Nat.lt_of_lt_of_le hi.1 hn, hi.2⟩ ⟨Nat.lt_of_lt_of_le hj.1 hn, hj.2⟩ e
  sep i hi o := by
    have hi' : i < n := hi.1
    have hi2 : G.on i := ⟨Nat.lt_of_lt_of_le hi.1 hn, hi.2⟩
    simp only [Gh.cut]
    rw [if_neg]
    · exact hw.sep i hi2 o
    · rintro ⟨id, h1, h2, e⟩
      have := hw.inj id i h2 hi2 e
      omega
  low i hi := hw.low i ⟨Nat.lt_of_lt_of_le hi.1 hn, hi.2⟩
  bel := hw.bel
  hB := hw.hB
  pob id o hid hz := by
    have hid' : id < n := hid
    obtain ⟨q1, q2⟩ := hw.pob id o (Nat.lt_of_lt_of_le hid hn) hz
    exact ⟨by rw [List.getElem?_take, if_pos hid']; exact q1, q2⟩
  old b o v hb h := cut_frz hw (hw.old b o v hb h)

mutual
theorem freeze_rel {G : Gh} {σ : AS} {w : World} (hw : WRel P B w₀ G σ w) {n : Nat} : ∀ (k : Nat) (v v₂ : AV) (v' : Value), freeze σ n k v = some v₂ → VRel G v v' → VRel (G.cut n w) v₂ v' ∧ v₂.refs ≤ n
  | 0, _, _, _, h, _ => by simp [freeze] at h
  | k + 1, v, v₂, v', h, r => by
    unfold freeze at h
    split at h
    · rename_i hr
      cases h
      exact ⟨r.agree (cut_agree hw) _ _ hr, hr⟩
    · rename_i hr
      split at h
      · rename_i id ver sz off len clip
        split at h
        · rename_i v₀ sz' ty els he
          split at h
          · rename_i hc
            obtain ⟨c1, c2, c3⟩ := hc
            subst c1 c2
            split at h
            · rename_i els' hf
              cases h
              obtain ⟨g1, g2, g3, c, pre, vs, post, hb, hcl, hpre, hsize, hl, lf⟩ := hw.obj id _ he r.pz_ref
              have hid : G.on id := ⟨by rw [hw.len]; exact (List.getElem?_eq_some_iff.1 he).1, r.pz_ref⟩
              have hnid : n ≤ id := by simp only [AV.refs] at hr; omega
              simp only [VRel] at r
              obtain ⟨_, _, a, cap, e, d1, d2, d3⟩ := r
              obtain ⟨f1, f2, f3⟩ := d3 g1
              have hsl := hl.slice (l := off) (n := len) g3
              obtain ⟨q1, q2, q3⟩ := freezeLL_rel hw k _ els' _ hf hsl
              have hlen : els'.length = len := by
                have := q3; rw [this.1]; simp; omega
              refine ⟨⟨a.block, a.off, cap, sz', _, ?_, by rw [hlen]; exact d1.1, fun hcc => by rw [hlen]; exact d2 hcc, ?_, ?_, (lf.drop _).take _, q1⟩, q2⟩
              · rw [e, hlen]; congr 2
                obtain ⟨b, o, s⟩ := a
                have := d1.2
                simp only at this
                rw [this]
              · exact q3.2 sz' (fun el hel => g3 el (List.mem_of_mem_drop (List.mem_of_mem_take hel)))
              · intro j u hj
                have hpos : 0 < cap := by
                  by_cases h0 : len = 0
                  · subst h0; simp at hj
                  · omega
                have hoff : a.off = G.base id + off * sz' := by rw [f2 hpos]
                have hblk : a.block = G.blk id := by rw [f2 hpos]
                rw [hoff, hblk, cut_old hnid hid]
                refine cell_of_block hb _ u ?_
                have hvl := hl.len g3
                rw [List.getElem?_take] at hj
                split at hj
                · rw [List.getElem?_drop] at hj
                  have hlt := (List.getElem?_eq_some_iff.1 hj).1
                  rw [hcl, List.getElem?_append_right (by omega), List.getElem?_append_left (by omega), ← hj]
                  congr 1; omega
                · cases hj
            · cases h
          · cases h
        · cases h
      · rename_i cs
        split at h
        · rename_i cs' hf
          cases h
          simp only [VRel] at r
          obtain ⟨vs, rfl, l, lf⟩ := r
          obtain ⟨q1, q2, _⟩ := freezeL_rel hw k cs cs' _ hf l
          exact ⟨⟨vs, rfl, q1, lf⟩, q2⟩
        · cases h
      · rename_i cs
        split at h
        · rename_i cs' hf
          cases h
          simp only [VRel] at r
          obtain ⟨vs, rfl, l⟩ := r
          obtain ⟨q1, q2, _⟩ := freezeL_rel hw k cs cs' _ hf l
          exact ⟨⟨vs, rfl, q1⟩, q2⟩
        · cases h
      · rename_i els clip
        split at h
        · rename_i els' hf
          cases h
          simp only [VRel] at r
          obtain ⟨b, o, cap, sz, vs, rfl, d1, d2, d3, hf', lf, hl⟩ := r
          obtain ⟨q1, q2, q3⟩ := freezeLL_rel hw k els els' _ hf hl
          refine ⟨⟨b, o, cap, sz, vs, by rw [q3.1], by rw [q3.1]; exact d1, fun hcc => by rw [q3.1]; exact d2 hcc, q3.2 sz d3, fun j u hj => cut_frz hw (hf' j u hj), lf, q1⟩, q2⟩
        · cases h
      · cases h
theorem freezeL_rel {G : Gh} {σ : AS} {w : World} (hw : WRel P B w₀ G σ w) {n : Nat} : ∀ (k : Nat) (cs cs₂ : List AV) (vs : List Value), freezeL σ n k cs = some cs₂ → LRel G cs vs → LRel (G.cut n w) cs₂ vs ∧ refsL cs₂ ≤ n ∧ cs₂.length = cs.length
  | k, [], cs₂, vs, h, r => by
    cases k <;> simp only [freezeL, Option.some.injEq] at h <;> subst h <;> simp only [LRel] at r <;> subst r <;> simp [LRel, refsL]
  | 0, _ :: _, _, _, h, _ => by simp [freezeL] at h
  | k + 1, a :: as, cs₂, vs, h, r => by
    simp only [freezeL] at h
    split at h
    · rename_i a' ha
      split at h
      · rename_i as' has
        cases h
        simp only [LRel] at r
        obtain ⟨v, q, rfl, h1, h2⟩ := r
        obtain ⟨p1, p2⟩ := freeze_rel hw k a a' v ha h1
        obtain ⟨p3, p4, p5⟩ := freezeL_rel hw (k + 1) as as' q has h2
        exact ⟨⟨v, q, rfl, p1, p3⟩, by simp only [refsL]; omega, by simp [p5]⟩
      · cases h
    · cases h
theorem freezeLL_rel {G : Gh} {σ : AS} {w : World} (hw : WRel P B w₀ G σ w) {n : Nat} : ∀ (k : Nat) (els els₂ : List (List AV)) (vs : List Value), freezeLL σ n k els = some els₂ → LLRel G els vs →
    LLRel (G.cut n w) els₂ vs ∧ refsLL els₂ ≤ n ∧ (els₂.length = els.length ∧ ∀ sz, (∀ el ∈ els, el.length = sz) → ∀ el ∈ els₂, el.length = sz)
  | k, [], els₂, vs, h, r => by
    cases k <;> simp only [freezeLL, Option.some.injEq] at h <;> subst h <;> simp only [LLRel] at r <;> subst r <;> simp [LLRel, refsLL]
  | 0, _ :: _, _, _, h, _ => by simp [freezeLL] at h
  | k + 1, a :: as, els₂, vs, h, r => by
    simp only [freezeLL] at h
    split at h
    · rename_i a' ha
      split at h
      · rename_i as' has
        cases h
        simp only [LLRel] at r
        obtain ⟨v, q, rfl, h1, h2⟩ := r
        obtain ⟨p1, p2, p0⟩ := freezeL_rel hw k a a' v ha h1
        obtain ⟨p3, p4, p5, p6⟩ := freezeLL_rel hw (k + 1) as as' q has h2
        refine ⟨⟨v, q, rfl, p1, p3⟩, by simp only [refsLL]; omega, by simp [p5], fun sz hu el hel => ?_⟩
        rcases List.mem_cons.1 hel with rfl | hel
        · rw [p0]; exact hu a (by simp)
        · exact p6 sz (fun x hx => hu x (by simp [hx])) el hel
      · cases h
    · cases h
end

/-- **A call's end.** -/
theorem finish_sound {G₀ : Gh} {σ₀ : AS} {w₁ : World} (hw₀ : WRel P B w₀ G₀ σ₀ w₁) {G : Gh} {σ : AS} {w : World} (hle : G₀.le G) (hw : WRel P B w₀ G σ w) (hext : AS.Ext { heap := σ₀.heap, lo := none } σ) {v : AV} {v' : Value} (hv : VRel G v v') :
    ∃ G₂, G₀.le G₂ ∧ WRel P B w₀ G₂ (finish σ₀.heap.length σ₀.lo v σ).2 w ∧ VRel G₂ (finish σ₀.heap.length σ₀.lo v σ).1 v' ∧ σ₀.Ext (finish σ₀.heap.length σ₀.lo v σ).2 := by
  have keep : ∃ G₂, G₀.le G₂ ∧ WRel P B w₀ G₂ { heap := σ.heap, lo := joinLo σ₀.lo σ.lo } w ∧ VRel G₂ v v' ∧ σ₀.Ext { heap := σ.heap, lo := joinLo σ₀.lo σ.lo } := by
    refine ⟨G, hle, hw.lo _, hv, hext.len, fun j h => ?_, fun j o h => ?_⟩
    · simp only [joinLo]
      cases σ.lo with
      | none => exact h
      | some l => exact loAt_minLo (.inl h)
    · obtain ⟨o', h1, h2⟩ := hext.obj j o h
      refine ⟨o', h1, h2.imp id fun ⟨l, e, hl⟩ => ?_⟩
      simp only [joinLo, e]
      exact loAt_minLo (.inr hl)
  have clear : (∀ j, j < σ₀.heap.length → ¬ loAt σ.lo j) → ∀ v₂, freeze σ σ₀.heap.length 12 v = some v₂ →
      ∃ G₂, G₀.le G₂ ∧ WRel P B w₀ G₂ { heap := σ.heap.take σ₀.heap.length, lo := σ₀.lo } w ∧ VRel G₂ v₂ v' ∧ σ₀.Ext { heap := σ.heap.take σ₀.heap.length, lo := σ₀.lo } := by
    intro hno v₂ hf
    have hn0 := hw₀.len
    have hobj : ∀ j o, j < σ₀.heap.length → σ.heap[j]? = some o → o.le σ₀.heap.length := by
      intro j o hj ho
      have h0 : σ₀.heap[j]? = some σ₀.heap[j] := List.getElem?_eq_getElem hj
      obtain ⟨o', h1, h2⟩ := hext.obj j _ h0
      rw [ho] at h1
      cases h1
      rcases h2 with h2 | h2
      · have := h2 σ₀.heap.length (by have := hw₀.leObj h0; rwa [hn0] at this)
        exact this.mono (by omega)
      · exact absurd h2 (hno j hj)
    have hlen : σ₀.heap.length ≤ G.n := by rw [hw.len]; exact hext.len
    obtain ⟨r1, r2⟩ := freeze_rel hw 12 v v₂ v' hf hv
    refine ⟨G.cut σ₀.heap.length w, ?_, hw.cut hlen hobj _, r1, ?_, fun j h => h, fun j o h => ?_⟩
    · exact { frz := fun b o u h => cut_frz hw (hle.frz b o u h), n := by simp [Gh.cut, hn0], on := fun i hi => ⟨by have := hi.1; simp only [Gh.cut]; omega, (hle.on i hi).2⟩, ver := fun i hi => hle.ver i hi, same := fun i hi e => hle.same i hi e, pz := fun i hi => hle.pz i hi }
    · have := hext.len
      simp only at this
      simp; omega
    · have hj : j < σ₀.heap.length := (List.getElem?_eq_some_iff.1 h).1
      obtain ⟨o', h1, h2⟩ := hext.obj j o h
      refine ⟨o', by simp [List.getElem?_take, hj, h1], .inl ?_⟩
      rcases h2 with h2 | h2
      · exact h2
      · exact absurd h2 (hno j hj)
  unfold finish
  cases hl : σ.lo with
  | none =>
    simp only [if_true]
    cases hf : freeze σ σ₀.heap.length 12 v with
    | none => simp only; rw [hl] at keep; exact keep
    | some v₂ => exact clear (by rintro j _ ⟨l, e, _⟩; rw [hl] at e; cases e) v₂ hf
  | some l =>
    rw [hl] at keep
    by_cases h : σ₀.heap.length ≤ l
    · simp only [h, decide_true, if_true]
      cases hf : freeze σ σ₀.heap.length 12 v with
      | none => exact keep
      | some v₂ => exact clear (by rintro j hj ⟨l', e, hle'⟩; rw [hl] at e; cases e; omega) v₂ hf
    · simp only [h, decide_false, Bool.false_eq_true, if_false]
      exact keep

end Go.Den

/- Den: calls, regions, code. -/
namespace Go.Den
open Go Go.RowKit

variable {P : Program} {X : Ctx} {B : Nat} {w₀ : World} {ds₀ : List Deferred}

/-- The widest fence, in a round or not. -/
def W (r : Option Nat) : Fence := { fn := fun _ => True, depth := none, alive := false, round := r }

theorem W_none : W none = Fence.wide := rfl

theorem room_W (r : Option Nat) (n : Nat) : (W r).room n := fun _ h => by simp [W] at h

theorem callsIn_W {r r' : Option Nat} {n n' : Nat} {f : FuncId} {args : Array Value} {w : World} {R : Ending → World → Prop} (h : CallsIn (W r) n P f args w R) : CallsIn (W r') n' P f args w R :=
  ⟨trivial, fun cs _ => h.2 cs (room_W _ _)⟩

theorem roundIn_W {r r' : Option Nat} {n n' : Nat} {l : Nat} {f : FuncId} {tmps : Array Value} {as bd : Code} {w : World} {R : Ending → World → Prop} (h : RoundIn (W r) n P l f tmps as bd w R) : RoundIn (W r') n' P l f tmps as bd w R :=
  ⟨trivial, fun c cs _ => h.2 c cs (room_W _ _)⟩

/-- What an ending of a call is to be. -/
def Ends (P : Program) (B : Nat) (w₀ : World) (G : Gh) (σ : AS) : CRes → Ending → World → Prop
  | .ret v σ', .returned v', w' => ∃ G', G.le G' ∧ WRel P B w₀ G' σ' w' ∧ VRel G' v v' ∧ σ.Ext σ'
  | .panic v σ', .panicked chain, w' => ∃ G' v', chain = [{ v := v', recovered := false }] ∧ G.le G' ∧ WRel P B w₀ G' σ' w' ∧ VRel G' v v' ∧ σ.Ext σ'
  | _, _, _ => False

/-- What follows a call's first step. -/
def NextOk (P : Program) (K : Ending → World → Prop) : Result Next → Prop
  | .ok (.value v) w' => K (.returned v) w'
  | .ok (.enter f args) w' => CallsIn (W none) 0 P f args w' K
  | .ok (.round l f tmps as bd) w' => RoundIn (W none) 0 P l f tmps as bd w' K
  | _ => False

theorem NextOk.mono {K K' : Ending → World → Prop} {r : Result Next} (h : NextOk P K r) (hk : ∀ e w, K e w → K' e w) : NextOk P K' r := by
  unfold NextOk at *
  split at h
  · exact hk _ _ h
  · exact h.mono hk
  · exact h.mono hk
  · exact h.elim

/-- A call, as the model makes it. -/
def callS (fv : Value) (args : Array Value) : Sem Next := do let d ← Deferred.ofValue fv args; invoke d.target d.args

def CallOk (P : Program) (B : Nat) (w₀ : World) (C : Caller) : Prop :=
  ∀ fv args σ cr, C fv args σ = some cr → ∀ G w fv' (args' : Array Value), WRel P B w₀ G σ w → VRel G fv fv' → LRel G args args'.toList → NextOk P (Ends P B w₀ G σ cr) ((callS fv' args').run P w)

/-- An activation's marks. -/
def DRel (ds₀ : List Deferred) (G : Gh) : List Nat → List Deferred → Prop
  | [], ds => ds = ds₀
  | m :: ms, ds => ∃ d r k, ds = d :: r ∧ d.target = .collected k ∧ G.on m ∧ (G.ver m = 0 → k = G.blk m) ∧ DRel ds₀ G ms r

theorem DRel.mono {G G' : Gh} (h : G.le G') : ∀ {ms : List Nat} {ds : List Deferred}, DRel ds₀ G ms ds → DRel ds₀ G' ms ds
  | [], _, r => r
  | m :: ms, _, r => by
    simp only [DRel] at *
    obtain ⟨d, q, k, e, h1, h2, h3, h4⟩ := r
    refine ⟨d, q, k, e, h1, h.on _ h2, fun e0 => ?_, h4.mono h⟩
    have hv := h.ver _ h2
    rw [(h.same _ h2 (by omega)).1]
    exact h3 (by omega)

theorem DRel.monoS {G G' : Gh} (h : G.sub G') : ∀ {ms : List Nat} {ds : List Deferred}, DRel ds₀ G ms ds → DRel ds₀ G' ms ds
  | [], _, r => r
  | m :: ms, _, r => by
    simp only [DRel] at *
    obtain ⟨d, q, k, e, h1, h2, h3, h4⟩ := r
    refine ⟨d, q, k, e, h1, h.on _ h2, fun e0 => ?_, h4.monoS h⟩
    have hv := h.ver _ h2
    rw [(h.same _ h2 (by omega)).1]
    exact h3 (by omega)

def ExRel (G : Gh) : Ex → Exit → Prop
  | .normal, .normal => True
  | .exit i, .exit j => i = j
  | .ret, .ret => True
  | .panic v, .panic chain => ∃ v', chain = [{ v := v', recovered := false }] ∧ VRel G v v'
  | _, _ => False

/-- Where code comes to. -/
def ResOk (P : Program) (B : Nat) (w₀ : World) (ds₀ : List Deferred) (G₀ : Gh) (σ₀ : AS) (nt : Nat) (res : Ex × Fr × AS) (e : Exit) (a : Act) (w : World) : Prop :=
  ∃ G, G₀.le G ∧ WRel P B w₀ G res.2.2 w ∧ ERel G nt res.2.1.env a.tmps ∧ DRel ds₀ G res.2.1.marks a.defers ∧ σ₀.Ext res.2.2 ∧ ExRel G res.1 e

theorem ResOk.trans {G₀ G₁ : Gh} {σ₀ σ₁ : AS} {nt : Nat} {res : Ex × Fr × AS} {e : Exit} {a : Act} {w : World} (h : ResOk P B w₀ ds₀ G₁ σ₁ nt res e a w) (hg : G₀.le G₁) (hs : σ₀.Ext σ₁) : ResOk P B w₀ ds₀ G₀ σ₀ nt res e a w := by
  obtain ⟨G, h1, h2, h3, h4, h5, h6⟩ := h
  exact ⟨G, Gh.le_trans hg h1, h2, h3, h4, hs.trans h5, h6⟩

theorem ERel.set {G : Gh} {nt : Nat} {e : Env} {tmps : Array Value} (h : ERel G nt e tmps) {d : Nat} (hd : d < nt) {v : AV} {v' : Value} (hv : VRel G v v') : ERel G nt (e.set d v) (tmps.setIfInBounds d v') where
  size := by simp [h.size]
  get t u ht := by
    rw [Array.getElem?_setIfInBounds] at ht
    simp only [Env.set]
    split at ht
    · rename_i e
      subst e
      split at ht
      · cases ht; rw [if_pos rfl]; exact hv
      · cases ht
    · rename_i hne
      rw [if_neg (fun e => hne e.symm)]
      exact h.get t u ht
  out t ht := by
    simp only [Env.set]
    rw [if_neg (by omega)]
    exact h.out t ht

theorem put_rel' {G : Gh} {nt : Nat} {fr : Fr} {a : Act} (h : ERel G nt fr.env a.tmps) {dst : Option Nat} (hd : ∀ d, dst = some d → d < nt) {v : AV} {v' : Value} (hv : VRel G v v') :
    ERel G nt (fr.put dst v).env (a.put dst v').tmps ∧ (fr.put dst v).marks = fr.marks ∧ (a.put dst v').defers = a.defers := by
  cases dst with
  | none => exact ⟨h, rfl, rfl⟩
  | some d => exact ⟨h.set (hd d rfl) hv, rfl, rfl⟩

theorem undef_rel {G : Gh} : VRel G .undef undef := ⟨#[], rfl, by simp [LRel]⟩

theorem bool_rel {G : Gh} {x : AV} {b : Bool} (h : VRel G x (.bool b)) : x = .bool b := by
  cases x <;> simp [VRel] at h
  rw [h]

/-- Guards. -/
theorem wanted_rel {G : Gh} {nt : Nat} {e : Env} {a : Act} (he : ERel G nt e a.tmps) {ops : Array Oper} {o : Oper} {g : Option (Nat × Bool)} (h : guardOf ops o = some g) : Region.wanted o (yielded ops a.tmps) = wantedA e g := by
  unfold guardOf at h
  unfold Region.wanted
  split at h
  · rename_i hn
    cases h
    simp [hn, wantedA]
  · rename_i j want hs
    split at h
    · rename_i t ht
      cases h
      simp only [hs, wantedA, yielded, ht, Option.bind_some]
      by_cases hlt : t < a.tmps.size
      · have hr := he.get t a.tmps[t] (by simp [hlt])
        simp only [Array.getElem?_eq_getElem hlt]
        cases hv : a.tmps[t] with
        | bool b =>
          rw [hv] at hr
          rw [bool_rel hr]
          simp
        | _ =>
          rw [hv] at hr
          cases hx : e t <;> rw [hx] at hr <;> simp [VRel] at hr <;> simp
      · have hge : a.tmps.size ≤ t := Nat.le_of_not_lt hlt
        rw [he.out t (by rw [← he.size]; exact hge)]
        have : a.tmps[t]? = none := Array.getElem?_eq_none hge
        simp [this]
    · cases h

section region
variable {C : Caller} (hC : CallOk P B w₀ C) (hg : GlobOk X B w₀) {r : Option Nat} {n nt : Nat}
include hC hg

/-- One operation. -/
theorem op_sound {rows : Bool} {ops : Array Oper} {o : Oper} {x : Ins} (h : prepOper P rows ops o = some x) (hd : ∀ d, x.dst = some d → d < nt) {G : Gh} {σ : AS} {w : World} {fr : Fr} {a : Act} (hw : WRel P B w₀ G σ w) (he : ERel G nt fr.env a.tmps) (hm : DRel ds₀ G fr.marks a.defers)
    {out : Out} (hx : exec X C x.i fr.env σ = some out) {next : Act → World → Prop} {Q : Exit → Act → World → Prop}
    (hok : ∀ v σ', out = .ok v σ' → ∀ G' a' w', G.le G' → WRel P B w₀ G' σ' w' → σ.Ext σ' → ERel G' nt (fr.put x.dst v).env a'.tmps → DRel ds₀ G' (fr.put x.dst v).marks a'.defers → next a' w')
    (hpanic : ∀ v σ', out = .panic v σ' → ∀ e a' w', ResOk P B w₀ ds₀ G σ nt (.panic v, fr, σ') e a' w' → Q e a' w') : o.wpIn (W r) n P a w next Q := by
  refine ⟨fun _ _ => trivial, ?_⟩
  unfold prepOper at h
  split at h
  · rename_i i g hi hgd
    cases h
    have hsem : o.semAt (W r).round a.eval = execOp a.eval o := by
      apply Oper.semAt_eq
      intro c e
      simp [prepOp, e] at hi
    rw [hsem]
    have good : ∀ v σ', out = .ok v σ' → Good P B w₀ G σ v σ' ((execOp a.eval o).run P w) → o.uponIn (W r) n P a next Q ((execOp a.eval o).run P w) := by
      intro v σ' e hgood
      obtain ⟨G', w', v', hr, h1, h2, h3, h4⟩ := hgood
      obtain ⟨p1, p2, p3⟩ := put_rel' (a := a) (he.mono h1) hd h3
      have hn := hok v σ' e G' (a.put o.dst v') w' h1 h2 h4 p1 (by rw [p2, p3]; exact hm.mono h1)
      rcases hr with hr | ⟨hr, hv⟩
      · rw [hr]; exact hn
      · rw [hr]; subst hv; exact hn
    by_cases hp : i.plain = true
    · cases out with
      | ok v σ' => exact good v σ' rfl (exec_sound hw hg he C hi hp hx)
      | panic v σ' =>
        exfalso
        cases i <;> simp [I.plain] at hp <;> simp only [exec, okv] at hx <;> (repeat' split at hx) <;> (try cases hx)
    · cases hop : o.op with
      | call c =>
        simp only [prepOp, hop] at hi
        obtain ⟨callee, cargs, cts⟩ := c
        have hcall : ∃ f fs as, callee = .value f ∧ opd f = some fs ∧ opds cargs.toList = some as ∧ i = .call fs as := by
          unfold prepCall at hi
          split at hi
          case h_1 d1 d2 d3 f hc =>
            simp only at hc
            split at hi
            · rename_i f' as h1 h2
              cases hi
              exact ⟨_, _, _, hc, h1, h2, rfl⟩
            · cases hi
          all_goals exfalso
          all_goals (first | (repeat' split at hi) | skip) <;> (try cases hi) <;> (try (simp only [Option.map_eq_some_iff] at hi; obtain ⟨_, _, rfl⟩ := hi)) <;> simp [I.plain] at hp
        obtain ⟨f, fs, as, rfl, hf, has, rfl⟩ := hcall
        have hrun : (execOp a.eval o).run P w = (callS (a.eval f) (cargs.map a.eval)).run P w := by
          unfold execOp
          simp only [hop]
          rfl
        simp only [exec] at hx
        have key : ∀ cr, C (fs.get fr.env) (as.map (·.get fr.env)) σ = some cr → NextOk P (Ends P B w₀ G σ cr) ((execOp a.eval o).run P w) := by
          intro cr hcr
          rw [hrun]
          exact hC _ _ _ _ hcr G w _ _ hw (opd_rel he hf) (by simpa using opds_rel he has)
        cases hcr : C (fs.get fr.env) (as.map (·.get fr.env)) σ with
        | none => simp [hcr] at hx
        | some cr =>
          have hk := key cr hcr
          -- what the operation does behind the call
          have cont : ∀ e w'', Ends P B w₀ G σ cr e w'' → (match e with
              | .returned v => next (a.put o.dst v) w''
              | .panicked chain => Q (.panic chain) a w''
              | .outgrown => LetsOut Q) := by
            intro e w'' hend
            cases cr with
            | ret v σ' =>
              simp only [hcr, Option.some.injEq] at hx
              cases e with
              | returned v' =>
                obtain ⟨G', h1, h2, h3, h4⟩ := hend
                obtain ⟨p1, p2, p3⟩ := put_rel' (a := a) (he.mono h1) hd h3
                exact hok v σ' hx.symm G' _ w'' h1 h2 h4 p1 (by rw [p2, p3]; exact hm.mono h1)
              | panicked _ => exact hend.elim
              | outgrown => exact hend.elim
            | panic v σ' =>
              simp only [hcr, Option.some.injEq] at hx
              cases e with
              | returned _ => exact hend.elim
              | panicked chain =>
                obtain ⟨G', v', hc', h1, h2, h3, h4⟩ := hend
                exact hpanic v σ' hx.symm _ _ _ ⟨G', h1, h2, he.mono h1, hm.mono h1, h4, v', hc', h3⟩
              | outgrown => exact hend.elim
          generalize (execOp a.eval o).run P w = res at hk
          unfold NextOk at hk
          split at hk
          · exact cont _ _ hk
          · exact ⟨fun h => by simp [W] at h, callsIn_W (hk.mono fun e w'' h => by have := cont e w'' h; cases e <;> exact this)⟩
          · exact ⟨fun h => by simp [W] at h, roundIn_W (hk.mono fun e w'' h => by have := cont e w'' h; cases e <;> exact this)⟩
          · exact hk.elim
      | panic x =>
        simp only [prepOp, hop] at hi
        cases ho : opd x with
        | none => simp [ho] at hi
        | some y =>
          simp only [ho, Option.map_some, Option.some.injEq] at hi
          subst hi
          simp only [exec] at hx
          split at hx
          · rename_i t v ht
            cases hx
            have hr := opd_rel he ho
            rw [ht] at hr
            have hr0 := hr
            simp only [VRel] at hr
            obtain ⟨v', hv, _⟩ := hr
            have hrun : (execOp a.eval o).run P w = .halt (.panic (.iface t v')) w := by
              unfold execOp
              simp only [hop, hv]
              simp [Instr.panic, goPanic, Sem.run_bind, Sem.run, Result.andThen]
            rw [hrun]
            rw [hv] at hr0
            exact hpanic _ _ rfl _ _ _ ⟨G, G.le_refl, hw, he, hm, .refl σ, _, rfl, hr0⟩
          · cases hx
      | _ =>
        exfalso
        simp only [prepOp, hop] at hi
        repeat' split at hi
        all_goals (try cases hi)
        all_goals (try (simp only [Option.map_eq_some_iff] at hi; obtain ⟨_, _, rfl⟩ := hi))
        all_goals first | (simp [I.plain] at hp; done) | (simp_all; done)
  · cases h

end region
end Go.Den

/- Den: regions in the order of the text, code. -/
namespace Go.Den
open Go Go.RowKit

variable {P : Program} {X : Ctx} {B : Nat} {w₀ : World} {ds₀ : List Deferred}

section
variable {C : Caller} (hC : CallOk P B w₀ C) (hg : GlobOk X B w₀) {r : Option Nat} {n nt : Nat} {rows : Bool}
include hC hg

theorem ops_sound {ops : Array Oper} : ∀ (os : List Oper) (is : List Nat) (l : List Ins), is.map (ops[·]?) = os.map some → prepOps P rows ops os = some l → (∀ x ∈ l, ∀ d, x.dst = some d → d < nt) →
    ∀ (G : Gh) (σ : AS) (w : World) (fr : Fr) (a : Act) (res : Ex × Fr × AS) (Q : Exit → Act → World → Prop), WRel P B w₀ G σ w → ERel G nt fr.env a.tmps → DRel ds₀ G fr.marks a.defers → runOps X C l fr σ = some res →
    (∀ e a w, ResOk P B w₀ ds₀ G σ nt res e a w → Q e a w) → wpOpsIn (W r) n P ops Q is a w
  | [], is, l, hi, hp, hd, G, σ, w, fr, a, res, Q, hw, he, hm, hr, hQ => by
    have : is = [] := by simpa using hi
    subst this
    simp only [prepOps, Option.some.injEq] at hp
    subst hp
    simp only [runOps, Option.some.injEq] at hr
    subst hr
    exact hQ _ _ _ ⟨G, G.le_refl, hw, he, hm, .refl σ, trivial⟩
  | o :: os, is, l, hi, hp, hd, G, σ, w, fr, a, res, Q, hw, he, hm, hr, hQ => by
    cases is with
    | nil => simp at hi
    | cons i is =>
      simp only [List.map_cons, List.cons.injEq] at hi
      obtain ⟨hio, hi⟩ := hi
      simp only [prepOps] at hp
      split at hp
      · rename_i x xs hx hxs
        cases hp
        simp only [wpOpsIn, hio]
        have hg' : guardOf ops o = some x.g := by
          unfold prepOper at hx
          split at hx
          · rename_i h2; cases hx; exact h2
          · cases hx
        have hdst : x.dst = o.dst := by
          unfold prepOper at hx
          split at hx
          · cases hx; rfl
          · cases hx
        have hwt := wanted_rel he hg'
        simp only [runOps] at hr
        rw [hwt]
        split at hr
        · rename_i hwa
          rw [if_pos hwa]
          split at hr
          · rename_i v σ' hex
            refine op_sound hC hg hx (hd x (by simp)) hw he hm hex (fun v₁ σ₁ e G' a' w' h1 h2 h3 h4 h5 => ?_) (fun v₁ σ₁ e => by cases e)
            cases e
            exact ops_sound os is xs hi hxs (fun y hy => hd y (by simp [hy])) G' σ' w' _ a' res Q h2 h4 h5 hr (fun e a w h => hQ e a w (h.trans h1 h3))
          · rename_i v σ' hex
            cases hr
            exact op_sound hC hg hx (hd x (by simp)) hw he hm hex (fun v₁ σ₁ e => by cases e) (fun v₁ σ₁ e e' a' w' h => by cases e; exact hQ _ _ _ h)
          · cases hr
        · rename_i hwa
          rw [if_neg hwa]
          refine ⟨fun _ _ => trivial, ?_⟩
          obtain ⟨p1, p2, p3⟩ := put_rel' (a := a) he (hd x (by simp)) (v := .undef) (v' := undef) undef_rel
          rw [← hdst]
          exact ops_sound os is xs hi hxs (fun y hy => hd y (by simp [hy])) G σ w _ _ res Q hw p1 (by rw [p2, p3]; exact hm) hr hQ
      · cases hp

omit hC hg in
theorem range_map (ops : Array Oper) : (List.range ops.size).map (ops[·]?) = ops.toList.map some := by
  apply List.ext_getElem?
  intro j
  by_cases hj : j < ops.size
  · simp [hj]
  · simp [hj]

end

/-- What is asked of an iterator. -/
def LoopOk (L : Loops) : Prop := ∀ body fr σ res, L body fr σ = some res → ∃ k, iter k body fr σ = some res

/-- Code is sound. -/
def CodeSound (P : Program) (B : Nat) (w₀ : World) (ds₀ : List Deferred) (r : Option Nat) (n nt : Nat) (c : Code) (body : Fr → AS → Res) : Prop :=
  ∀ (G : Gh) (σ : AS) (w : World) (fr : Fr) (a : Act) (res : Ex × Fr × AS) (Q : Exit → Act → World → Prop), WRel P B w₀ G σ w → ERel G nt fr.env a.tmps → DRel ds₀ G fr.marks a.defers → body fr σ = some res →
    (∀ e a w, ResOk P B w₀ ds₀ G σ nt res e a w → Q e a w) → c.wpIn (W r) n P Q a w

theorem loop_key {r : Option Nat} {n nt : Nat} {c : Code} {body : Fr → AS → Res} (h : CodeSound P B w₀ ds₀ r n nt c body) : ∀ (m : Nat) (G : Gh) (σ : AS) (w : World) (fr : Fr) (a : Act) (res : Ex × Fr × AS) (Q : Exit → Act → World → Prop),
    WRel P B w₀ G σ w → ERel G nt fr.env a.tmps → DRel ds₀ G fr.marks a.defers → iter m body fr σ = some res → (∀ e a w, ResOk P B w₀ ds₀ G σ nt res e a w → Q e a w) →
    ∀ (b : Frame) (k : List Item) (cs : List Frame), b.roundOf = (W r).round → ∃ e a' w', Q e a' w' ∧ ArrivesIn (Machine.fenced P (W r)) P (lone (b.atR a (.code c :: .inLoop c :: k)) cs w) b k cs e a' w'
  | 0, _, _, _, _, _, _, _, _, _, _, hr, _, _, _, _, _ => by simp [iter] at hr
  | m + 1, G, σ, w, fr, a, res, Q, hw, he, hm, hr, hQ, b, k, cs, hro => by
    simp only [iter] at hr
    split at hr
    · rename_i fr' σ' hb
      have hbody := h G σ w fr a (.normal, fr', σ') (Exit.then (fun a' w' => ResOk P B w₀ ds₀ G σ nt (.normal, fr', σ') .normal a' w') (fun _ _ _ => False)) hw he hm hb (fun e a' w' hres => by
        have hres0 := hres
        obtain ⟨G₂, q1, q2, q3, q4, q5, q6⟩ := hres
        cases e <;> simp [ExRel] at q6
        exact hres0)
      obtain ⟨e, a₁, w₁, hq, harr⟩ := hbody b (.inLoop c :: k) cs hro trivial (room_W _ _)
      cases e <;> try exact hq.elim
      obtain ⟨G₂, q1, q2, q3, q4, q5, q6⟩ := hq
      obtain ⟨e₂, a₂, w₂, hq₂, harr₂⟩ := loop_key h m G₂ σ' w₁ fr' a₁ res Q q2 q3 q4 hr (fun e a w hh => hQ e a w (hh.trans q1 q5)) b k cs hro
      exact ⟨e₂, a₂, w₂, hq₂, .of_steps (StepsIn.trans harr (.one (fenced_calm (n := n) trivial (room_W _ _) rfl) stepR_inLoop)) harr₂⟩
    · rename_i hne
      have hbody := h G σ w fr a res (Exit.then (fun _ _ => False) Q) hw he hm hr (fun e a' w' hres => by
        have hq := hQ e a' w' hres
        obtain ⟨G₂, q1, q2, q3, q4, q5, q6⟩ := hres
        obtain ⟨ex, fr', σ'⟩ := res
        cases e <;> first | exact hq | (exfalso; cases ex <;> simp [ExRel] at q6; exact hne fr' σ' hr))
      obtain ⟨e, a₁, w₁, hq, harr⟩ := hbody b (.inLoop c :: k) cs hro trivial (room_W _ _)
      cases e with
      | normal => exact hq.elim
      | exit id => exact ⟨_, a₁, w₁, hq, .pass (x := .inLoop c) rfl (fun _ _ => .inl (by simp)) harr⟩
      | goto l => exact ⟨_, a₁, w₁, hq, .pass (x := .inLoop c) rfl (fun _ _ => .inl (by simp)) harr⟩
      | ret => exact ⟨_, a₁, w₁, hq, .pass (x := .inLoop c) rfl (fun _ _ => .inl (by simp)) harr⟩
      | panic ch => exact ⟨_, a₁, w₁, hq, .pass (x := .inLoop c) rfl (fun _ _ => .inl (by simp)) harr⟩
      | outgrown => exact ⟨_, a₁, w₁, hq, .pass (x := .inLoop c) rfl (fun _ _ => .inl (by simp)) harr⟩

theorem loop_sound {r : Option Nat} {n nt : Nat} {c : Code} {body : Fr → AS → Res} (h : CodeSound P B w₀ ds₀ r n nt c body) (m : Nat) : CodeSound P B w₀ ds₀ r n nt (.loop c) (iter m body) := by
  intro G σ w fr a res Q hw he hm hr hQ b k cs hro hb hroom
  obtain ⟨e, a', w', hq, harr⟩ := loop_key h m G σ w fr a res Q hw he hm hr hQ b k cs hro
  exact ⟨e, a', w', hq, .of_steps (.one (fenced_calm hb hroom rfl) stepR_loop) harr⟩

end Go.Den

/- Den: ranges over functions; code. -/
namespace Go.Den
open Go Go.RowKit

variable {P : Program} {X : Ctx} {B : Nat} {w₀ : World} {ds₀ : List Deferred}

/-- The code that is known is the program's. -/
def CodeOk (P : Program) (X : Ctx) : Prop := ∀ f pf, X.code f = some pf → ∃ rows fn, P.funcs[f]? = some fn ∧ prepF P rows fn = some pf

theorem prepF_of {rows : Bool} {fn : Func} {pf : PF} (h : prepF P rows fn = some pf) : ∃ c, fn.body = some c ∧ prepCode P rows fn.ntmps c = some pf.body ∧ prepRes P fn.results.toList = some pf.results ∧ pf.ntmps = fn.ntmps ∧ (fn.name == "runtime.NumGoroutine") = false := by
  unfold prepF at h
  split at h
  · rename_i c hc
    split at h
    · rename_i b rs h1 h2
      split at h
      · rename_i hn
        cases h
        exact ⟨c, hc, h1, h2, rfl, by simpa using hn⟩
      · cases h
    · cases h
  · cases h

theorem callS_code {f : FuncId} {fn : Func} {c : Code} (hf : P.funcs[f]? = some fn) (hb : fn.body = some c) (hn : (fn.name == "runtime.NumGoroutine") = false) (first cap args : Array Value) (w : World) :
    (callS (.func (.func f) first cap) args).run P w = .ok (.enter f (first ++ args ++ cap)) w := by
  have hn' : ¬ fn.name = "runtime.NumGoroutine" := by simpa using hn
  simp [callS, Deferred.ofValue, invoke, callFunc, run_program, hf, hn', hb]

theorem jump_wp {r : Option Nat} {n : Nat} {pc : PC} {ex : Ex} {c : Option Code} (hj : jumpRel (some pc) c) (he : jumpOf pc = some ex) {Q : Exit → Act → World → Prop} {a : Act} {w : World} (h : ∀ e, (∀ G, ExRel G ex e) → Q e a w) : ∃ code, c = some code ∧ code.wpIn (W r) n P Q a w := by
  cases pc <;> simp [jumpOf] at he <;> simp only [jumpRel] at hj <;> subst hj <;> subst he
  · exact ⟨_, rfl, wpIn_exit (h _ fun _ => rfl)⟩
  · exact ⟨_, rfl, wpIn_ret (h _ fun _ => trivial)⟩

section
variable {C : Caller} (hC : CallOk P B w₀ C) (hg : GlobOk X B w₀) (hX : CodeOk P X) {n nt : Nat} {rows : Bool}
include hC hX

theorem rfun_sound {fid : FuncId} {g : Operand} {g' : Opd} {ps : Array Tmp} {assign body : Code} {as bd : PC} (h1 : opd g = some g') (h2 : prepCode P rows nt assign = some as) (h3 : prepCode P rows nt body = some bd) (h4 : ps.toList.all (· < nt) = true) {L : Loops} :
    CodeSound P B w₀ ds₀ none n nt (.rangeFunc g ps assign body) (runCode X C L fid false (.rfun g' ps.toList as bd)) := by
  intro G σ w fr a res Q hw he hm hr hQ
  simp only [runCode, Bool.false_eq_true, if_false] at hr
  split at hr
  · rename_i hcode
    have hgr := opd_rel he h1
    -- the function that is called
    obtain ⟨f, first, cap, pf, hgv, hprim, hpf⟩ : ∃ f first cap pf, g'.get fr.env = .fn (.func f) first cap ∧ X.prim f = none ∧ X.code f = some pf := by
      unfold isCode at hcode
      split at hcode
      · rename_i f first cap hv
        simp only [Bool.and_eq_true, Option.isNone_iff_eq_none, Option.isSome_iff_exists] at hcode
        obtain ⟨h1, pf, h2⟩ := hcode
        exact ⟨f, first, cap, pf, hv, h1, h2⟩
      · cases hcode
    obtain ⟨rows', fn, hf, hpre⟩ := hX f pf hpf
    obtain ⟨c, hbody, _, _, _, hname⟩ := prepF_of hpre
    have hgr0 := hgr
    rw [hgv] at hgr
    simp only [VRel, fnRel] at hgr
    obtain ⟨f', first', cap', hge, hf', hfirst, hcap⟩ := hgr
    subst hf'
    refine wpIn_rangeFunc (fun fid' _ => ?_)
    -- the record
    have hsz := he.size
    let L₀ : Loop := { state := .ready, pending := none, fn := fid', tmps := a.tmps, params := ps, assign, body, defers := w.heap.size }
    let w₁ := (w.alloc (.deferred (some []))).alloc (.loop L₀)
    have hs1 : (w.alloc (.deferred (some []))).heap.size = w.heap.size + 1 := by simp
    have hw1 := hw.push (.deferred (some [])) .dfr 0 0 ⟨by simp [Gh.push], by
      have : (G.push w.heap.size 0 0).blk G.n = w.heap.size := by simp [Gh.push]
      rw [this]; exact heap_alloc_new _ _⟩
    have hle1 := G.le_push w.heap.size 0 0
    have hle2 := (G.push w.heap.size 0 0).le_push (w.alloc (.deferred (some []))).heap.size 0 0
    have hw2 := hw1.push (.loop L₀) (.loop .ready none fid fr.env ps.toList as bd) 0 0 ⟨by simp [Gh.push], L₀, by
      have : ((G.push w.heap.size 0 0).push (w.alloc (.deferred (some []))).heap.size 0 0).blk (G.push w.heap.size 0 0).n = (w.alloc (.deferred (some []))).heap.size := by simp [Gh.push]
      rw [this]; exact heap_alloc_new _ _, rfl, rfl, trivial, by
        have := (he.mono hle1).mono hle2
        show ERel _ a.tmps.size fr.env a.tmps
        rw [hsz]; exact this, rfl, by show ps.toList.all (· < a.tmps.size) = true; rw [hsz]; exact h4, rows, by show prepCode P rows a.tmps.size assign = _; rw [hsz]; exact h2, by show prepCode P rows a.tmps.size body = _; rw [hsz]; exact h3⟩
    have hlen := hw.len
    have hon1 : ((G.push w.heap.size 0 0).push (w.alloc (.deferred (some []))).heap.size 0 0).on σ.heap.length := hle2.on _ (Gh.on_new hw)
    have hon2 : ((G.push w.heap.size 0 0).push (w.alloc (.deferred (some []))).heap.size 0 0).on (σ.heap.length + 1) := by
      have := Gh.on_new hw1 (b := (w.alloc (.deferred (some []))).heap.size) (lim := 0) (sz := 0)
      have e : (σ.push .dfr).heap.length = σ.heap.length + 1 := by simp [AS.push]
      rwa [e] at this
    refine ⟨w.heap.size + 1, [{ target := .collected w.heap.size, args := #[] }], w₁, { target := .fn (.func f) cap', args := first' ++ #[.func (.yield (w.heap.size + 1)) #[] #[]] }, w₁, f, first' ++ #[.func (.yield (w.heap.size + 1)) #[] #[]] ++ cap', w₁, ?_, ?_, fun _ _ => trivial, ?_, fun h => by simp [W] at h, ?_⟩
    · show (Instr.enterLoop fid' a.tmps ps assign body none).run P w = _
      simp [Instr.enterLoop, w₁, L₀]
    · have hge' : Act.eval a g = .func (.func f) first' cap' := hge
      have hm0 : (#[Operand.const (.func (.yield (w.heap.size + 1)) #[] #[])] : Array Operand).map a.eval = #[.func (.yield (w.heap.size + 1)) #[] #[]] := by simp [Act.eval]
      simp only [rangeCall, resolve, hm0, hge', Deferred.ofValue, Sem.run_pure]
    · have hn' : ¬ fn.name = "runtime.NumGoroutine" := by simpa using hname
      simp [invoke, callFunc, run_program, hf, hn', hbody]
    · have hy : VRel ((G.push w.heap.size 0 0).push (w.alloc (.deferred (some []))).heap.size 0 0) (.fn (.yield (σ.heap.length + 1)) [] []) (.func (.yield (w.heap.size + 1)) #[] #[]) := by
        refine ⟨_, #[], #[], rfl, ⟨hon2, _, rfl, fun _ => by simp [Gh.push, hlen]⟩, by simp [LRel], by simp [LRel]⟩
      have hcallrun := callS_code (P := P) hf hbody hname first' cap' #[.func (.yield (w.heap.size + 1)) #[] #[]] w₁
      have hext : σ.Ext ((σ.push .dfr).push (.loop .ready none fid fr.env ps.toList as bd)) := (AS.Ext.push _ _).trans (.push _ _)
      have main : ∀ cr, C (g'.get fr.env) [.fn (.yield (σ.heap.length + 1)) [] []] ((σ.push .dfr).push (.loop .ready none fid fr.env ps.toList as bd)) = some cr →
          CallsIn (W none) 0 P f (first' ++ #[.func (.yield (w.heap.size + 1)) #[] #[]] ++ cap') w₁ (Ends P B w₀ ((G.push w.heap.size 0 0).push (w.alloc (.deferred (some []))).heap.size 0 0) ((σ.push .dfr).push (.loop .ready none fid fr.env ps.toList as bd)) cr) := by
        intro cr hcr
        have := hC _ _ _ _ hcr _ w₁ (a.eval g) #[.func (.yield (w.heap.size + 1)) #[] #[]] hw2 ((hgr0.mono hle1).mono hle2) ⟨_, _, rfl, hy, by simp [LRel]⟩
        rw [hge, hcallrun] at this
        exact this
      -- the marks
      have hmarks : ∀ G', ((G.push w.heap.size 0 0).push (w.alloc (.deferred (some []))).heap.size 0 0).le G' → DRel ds₀ G' (σ.heap.length :: fr.marks) ({ target := .collected w.heap.size, args := #[] } :: a.defers) := by
        intro G' hG'
        refine DRel.mono hG' ⟨_, _, w.heap.size, rfl, rfl, hon1, fun _ => by simp [Gh.push, hlen], (hm.mono hle1).mono hle2⟩
      split at hr
      · rename_i v σ' hcr
        refine callsIn_W ((main _ hcr).mono fun e w₃ hend => ?_)
        cases e with
        | panicked _ => exact hend.elim
        | outgrown => exact hend.elim
        | returned v' =>
          obtain ⟨G', q1, q2, q3, q4⟩ := hend
          unfold endLoop at hr
          split at hr
          · rename_i st pend ff env pps as' bd' hobj
            split at hr
            · cases hr
            · rename_i hst
              have hlid : G'.on (σ.heap.length + 1) := q1.on _ hon2
              obtain ⟨o0, L', ob, os, oj, _, oe, op, ops', orows⟩ := q2.obj _ _ hobj hlid.2
              have hblk : G'.blk (σ.heap.length + 1) = w.heap.size + 1 := by
                rw [(q1.same (σ.heap.length + 1) hon2 (by rw [o0]; simp [Gh.push, hlen])).1]
                simp [Gh.push, hlen]
              rw [hblk] at ob
              have hrun : (Instr.endLoop (w.heap.size + 1)).run P w₃ = .ok L'.pending (putB w₃ (w.heap.size + 1) (.loop { L' with state := .exhausted })) := by
                have hnb : ¬ L'.state = .busy := by rw [os]; exact hst
                simp [Instr.endLoop, Instr.getLoop, getObj, setObj, Sem.run, ob, hnb, putB]
              have hput : WRel P B w₀ G' (σ'.set (σ.heap.length + 1) (.loop .exhausted pend ff env pps as' bd') 0) (putB w₃ (w.heap.size + 1) (.loop { L' with state := .exhausted })) := by
                have := q2.put hlid (O := .loop { L' with state := .exhausted }) (o' := .loop .exhausted pend ff env pps as' bd') 0 ⟨o0, { L' with state := .exhausted }, putB_same (q2.low _ hlid).2, rfl, oj, trivial, oe, op, ops', orows⟩
                rw [hblk] at this; exact this
              have hext' : σ.Ext (σ'.set (σ.heap.length + 1) (.loop .exhausted pend ff env pps as' bd') 0) := (hext.trans q4).trans (.set hobj fun n hn _ => hn)
              have hle' := Gh.le_trans (Gh.le_trans hle1 hle2) q1
              generalize putB w₃ (w.heap.size + 1) (.loop { L' with state := .exhausted }) = w₄ at hput hrun
              refine ⟨L'.pending, w₄, hrun, ?_⟩
              split at hr
              · cases hr
                simp only [jumpRel] at oj
                rw [oj]
                exact hQ _ _ _ ⟨G', hle', hput, he.mono hle', hmarks G' q1, hext', trivial⟩
              · rename_i j
                split at hr
                · rename_i ex hex
                  cases hr
                  obtain ⟨code, hcd, hwp⟩ := jump_wp (r := none) (n := n) (P := P) (Q := Q) oj hex (a := { a with defers := [{ target := .collected w.heap.size, args := #[] }] ++ a.defers }) (w := w₄)
                    (fun e hexr => hQ _ _ _ ⟨G', hle', hput, he.mono hle', hmarks G' q1, hext', hexr G'⟩)
                  rw [hcd]
                  exact hwp
                · cases hr
          · cases hr
      · rename_i v σ' hcr
        cases hr
        refine callsIn_W ((main _ hcr).mono fun e w₃ hend => ?_)
        cases e with
        | returned _ => exact hend.elim
        | outgrown => exact hend.elim
        | panicked chain =>
          obtain ⟨G', v', hc', q1, q2, q3, q4⟩ := hend
          have hle' := Gh.le_trans (Gh.le_trans hle1 hle2) q1
          exact hQ _ _ _ ⟨G', hle', q2, he.mono hle', hmarks G' q1, hext.trans q4, v', hc', q3⟩
      · cases hr
  · cases hr

end

/-- Regions that draw their order. -/
def DrawOk (P : Program) (X : Ctx) (B : Nat) (w₀ : World) : Prop :=
  ∀ (ds₀ : List Deferred) (C : Caller), CallOk P B w₀ C → ∀ (rows : Bool) (r : Option Nat) (n nt id : Nat) (ops : Array Oper) (xs : List Ins) (ys : List (Ins × List Nat)), prepOps P rows ops ops.toList = some xs → (∀ x ∈ xs, ∀ d, x.dst = some d → d < nt) → untied ops xs = some ys →
    CodeSound P B w₀ ds₀ r n nt (.region id ops true) (fun fr σ => runOpsD X C [] (slotOps σ.heap.length ys) fr (σ.pushL (slotZs ys)))

theorem code_sound {C : Caller} (hC : CallOk P B w₀ C) (hg : GlobOk X B w₀) (hX : CodeOk P X) (hdr : DrawOk P X B w₀) {L : Loops} (hL : LoopOk L) {rows : Bool} {n nt : Nat} {fid : FuncId} {rd : Bool} {r : Option Nat} (hrd : rd = r.isSome) :
    ∀ (c : Code) (pc : PC), prepCode P rows nt c = some pc → CodeSound P B w₀ ds₀ r n nt c (runCode X C L fid rd pc) := by
  intro c
  induction c with
  | skip =>
    intro pc h G σ w fr a res Q hw he hm hr hQ
    simp only [prepCode, Option.some.injEq] at h; subst h
    simp only [runCode, Option.some.injEq] at hr; subst hr
    exact wpIn_skip (hQ _ _ _ ⟨G, G.le_refl, hw, he, hm, .refl σ, trivial⟩)
  | label l =>
    intro pc h G σ w fr a res Q hw he hm hr hQ
    simp only [prepCode, Option.some.injEq] at h; subst h
    simp only [runCode, Option.some.injEq] at hr; subst hr
    exact wpIn_label (hQ _ _ _ ⟨G, G.le_refl, hw, he, hm, .refl σ, trivial⟩)
  | seq x y ihx ihy =>
    intro pc h G σ w fr a res Q hw he hm hr hQ
    simp only [prepCode] at h
    split at h
    · rename_i px py hx hy
      cases h
      simp only [runCode] at hr
      split at hr
      · rename_i fr' σ' hb
        refine wpIn_seq (ihx px hx G σ w fr a _ _ hw he hm hb (fun e a' w' hres => ?_))
        obtain ⟨G₂, q1, q2, q3, q4, q5, q6⟩ := hres
        cases e <;> simp [ExRel] at q6
        exact ihy py hy G₂ σ' w' fr' a' res Q q2 q3 q4 hr (fun e a w hh => hQ e a w (hh.trans q1 q5))
      · rename_i hne
        refine wpIn_seq (ihx px hx G σ w fr a res _ hw he hm hr (fun e a' w' hres => ?_))
        have hq := hQ e a' w' hres
        obtain ⟨G₂, q1, q2, q3, q4, q5, q6⟩ := hres
        obtain ⟨ex, fr', σ'⟩ := res
        cases e <;> first | exact hq | (exfalso; cases ex <;> simp [ExRel] at q6; exact hne fr' σ' hr)
    · cases h
  | cond c x y ihx ihy =>
    intro pc h G σ w fr a res Q hw he hm hr hQ
    simp only [prepCode] at h
    split at h
    · rename_i c' px py hc hx hy
      cases h
      simp only [runCode] at hr
      split at hr
      · rename_i t ht
        have hrel := opd_rel he hc
        rw [ht] at hrel
        simp only [VRel] at hrel
        refine wpIn_cond hrel ?_
        cases t with
        | true => simp only [if_true] at hr ⊢; exact ihx px hx G σ w fr a res Q hw he hm hr hQ
        | false => simp only [Bool.false_eq_true, if_false] at hr ⊢; exact ihy py hy G σ w fr a res Q hw he hm hr hQ
      · cases hr
    · cases h
  | block id c ih =>
    intro pc h G σ w fr a res Q hw he hm hr hQ
    simp only [prepCode] at h
    obtain ⟨pc', hc, rfl⟩ := Option.map_eq_some_iff.1 h
    simp only [runCode] at hr
    split at hr
    · rename_i id' fr' σ' hb
      refine wpIn_block (ih pc' hc G σ w fr a _ _ hw he hm hb (fun e a' w' hres => ?_))
      obtain ⟨G₂, q1, q2, q3, q4, q5, q6⟩ := hres
      cases e <;> simp [ExRel] at q6
      subst q6
      simp only [Exit.inBlock]
      split at hr
      · rename_i hid
        cases hr
        rw [if_pos hid]
        exact hQ _ _ _ ⟨G₂, q1, q2, q3, q4, q5, trivial⟩
      · rename_i hid
        cases hr
        rw [if_neg hid]
        exact hQ _ _ _ ⟨G₂, q1, q2, q3, q4, q5, rfl⟩
    · rename_i hne
      refine wpIn_block (ih pc' hc G σ w fr a res _ hw he hm hr (fun e a' w' hres => ?_))
      have hq := hQ e a' w' hres
      obtain ⟨G₂, q1, q2, q3, q4, q5, q6⟩ := hres
      obtain ⟨ex, fr', σ'⟩ := res
      cases e <;> first | exact hq | (exfalso; cases ex <;> simp [ExRel] at q6; exact hne _ fr' σ' hr)
  | loop c ih =>
    intro pc h G σ w fr a res Q hw he hm hr hQ
    simp only [prepCode] at h
    obtain ⟨pc', hc, rfl⟩ := Option.map_eq_some_iff.1 h
    simp only [runCode] at hr
    obtain ⟨k, hk⟩ := hL _ _ _ _ hr
    exact loop_sound (ih pc' hc) k G σ w fr a res Q hw he hm hk hQ
  | exit id =>
    intro pc h G σ w fr a res Q hw he hm hr hQ
    simp only [prepCode, Option.some.injEq] at h; subst h
    simp only [runCode, Option.some.injEq] at hr; subst hr
    exact wpIn_exit (hQ _ _ _ ⟨G, G.le_refl, hw, he, hm, .refl σ, rfl⟩)
  | ret =>
    intro pc h G σ w fr a res Q hw he hm hr hQ
    simp only [prepCode, Option.some.injEq] at h; subst h
    simp only [runCode, Option.some.injEq] at hr; subst hr
    exact wpIn_ret (hQ _ _ _ ⟨G, G.le_refl, hw, he, hm, .refl σ, trivial⟩)
  | region id ops draw =>
    intro pc h
    simp only [prepCode] at h
    split at h
    · rename_i xs hxs
      split at h
      · rename_i hall
        have hd : ∀ x ∈ xs, ∀ d, x.dst = some d → d < nt := by
          intro x hx d hxd
          have := List.all_eq_true.1 hall x hx
          rw [hxd] at this
          simpa using this
        cases draw with
        | false =>
          simp only [Bool.false_eq_true, if_false, Option.some.injEq] at h; subst h
          intro G σ w fr a res Q hw he hm hr hQ
          simp only [runCode] at hr
          exact wpIn_region (ops_sound hC hg ops.toList _ xs (range_map ops) hxs hd G σ w fr a res Q hw he hm hr hQ)
        | true =>
          simp only [if_true] at h
          obtain ⟨ys, hys, rfl⟩ := Option.map_eq_some_iff.1 h
          intro G σ w fr a res Q hw he hm hr hQ
          simp only [runCode] at hr
          exact hdr _ C hC rows r n nt id ops xs ys hxs hd hys G σ w fr a res Q hw he hm hr hQ
      · cases h
    · cases h
  | rangeFunc g ps assign body iha ihb =>
    intro pc h
    simp only [prepCode] at h
    split at h
    · rename_i g' as bd h1 h2 h3
      split at h
      · rename_i h4
        cases h
        cases r with
        | none =>
          subst hrd
          exact rfun_sound hC hX h1 h2 h3 h4
        | some l =>
          subst hrd
          intro G σ w fr a res Q hw he hm hr hQ
          simp [runCode] at hr
      · cases h
    · cases h
  | scope c ih => intro pc h; simp [prepCode] at h
  | goto l => intro pc h; simp [prepCode] at h
  | refuse s => intro pc h; simp [prepCode] at h

end Go.Den

/- Den: one level of a call. -/
namespace Go.Den
open Go Go.RowKit

variable {P : Program} {X : Ctx} {B : Nat} {w₀ : World} {ds₀ : List Deferred}

/-! Results. -/

theorem asAddr_of_sure {t : TypeId} {x v : Value} {w : World} (h : (Instr.loadAt t x).run P w = .ok v w) : (do loadVar t (← asAddr x) : Sem Value).run P w = .ok v w := by
  cases x with
  | pointer a =>
    cases a with
    | some a => simpa [Instr.loadAt, Instr.sureAddr, asAddr] using h
    | none => simp [Instr.loadAt, Instr.sureAddr, Sem.run_bind, stuck, Sem.run, Result.andThen] at h
  | _ => simp [Instr.loadAt, Instr.sureAddr, Sem.run_bind, stuck, Sem.run, Result.andThen] at h

/-- One result. -/
def resS (tmps : Array Value) : ResultVar → Sem Value
  | .tmp t => pure (tmps.getD t undef)
  | .cell a t => do loadVar t (← asAddr (tmps.getD a undef))

theorem results_resS (fn : Func) (tmps : Array Value) : results fn tmps = (do let vs ← fn.results.mapM (resS tmps); pure (if h : vs.size = 1 then vs[0] else .tuple vs)) := by
  have : resS tmps = (fun
    | .tmp t => pure (tmps.getD t undef)
    | .cell a t => do loadVar t (← asAddr (tmps.getD a undef))) := by
    funext x
    cases x <;> rfl
  unfold results
  rw [this]
  rfl

theorem resultsL_run (hg : GlobOk X B w₀) {G : Gh} {σ : AS} {w : World} (hw : WRel P B w₀ G σ w) {nt : Nat} {e : Env} {tmps : Array Value} (he : ERel G nt e tmps) : ∀ (l : List ResultVar) (rs : List RV) (vs : List AV), prepRes P l = some rs → resultsL X σ e rs = some vs →
    ∃ vs', (l.mapM (resS tmps)).run P w = .ok vs' w ∧ LRel G vs vs'
  | [], rs, vs, h, hr => by
    simp only [prepRes, Option.some.injEq] at h; subst h
    simp only [resultsL, Option.some.injEq] at hr; subst hr
    exact ⟨[], by simp, by simp [LRel]⟩
  | .tmp t :: l, rs, vs, h, hr => by
    simp only [prepRes] at h
    obtain ⟨rs', h', rfl⟩ := Option.map_eq_some_iff.1 h
    simp only [resultsL, resultA] at hr
    split at hr
    · rename_i vs₁ hv
      cases hr
      obtain ⟨vs', e1, r⟩ := resultsL_run hg hw he l rs' vs₁ h' hv
      refine ⟨tmps.getD t undef :: vs', ?_, ⟨_, _, rfl, getD_rel he t, r⟩⟩
      rw [List.mapM_cons]
      simp only [Sem.run_bind, resS, Sem.run_pure, Result.andThen_ok]
      rw [e1]
      simp only [Result.andThen_ok, Sem.run_pure]
    · cases hr
  | .cell a t :: l, rs, vs, h, hr => by
    simp only [prepRes] at h
    split at h
    · rename_i b n rs' h1 h2 h'
      cases h
      simp only [resultsL, resultA] at hr
      split at hr
      · rename_i v hv
        split at hr
        · rename_i vs₁ hvs
          cases hr
          obtain ⟨vs', e1, r⟩ := resultsL_run hg hw he l rs' vs₁ h' hvs
          obtain ⟨v', e2, r2⟩ := loadA_run hw hg h1 h2 (getD_rel he a) hv
          have e3 := asAddr_of_sure e2
          refine ⟨v' :: vs', ?_, ⟨_, _, rfl, r2, r⟩⟩
          rw [List.mapM_cons]
          have e4 : (resS tmps (.cell a t)).run P w = .ok v' w := e3
          simp only [Sem.run_bind]
          rw [e4]
          simp only [Result.andThen_ok]
          rw [e1]
          simp only [Result.andThen_ok, Sem.run_pure]
        · cases hr
      · cases hr
    · cases h

theorem results_run (hg : GlobOk X B w₀) {G : Gh} {σ : AS} {w : World} (hw : WRel P B w₀ G σ w) {nt : Nat} {e : Env} {tmps : Array Value} (he : ERel G nt e tmps) {fn : Func} {rs : List RV} {v : AV} (h : prepRes P fn.results.toList = some rs) (hr : resultsA X σ e rs = some v) :
    ∃ v', (results fn tmps).run P w = .ok v' w ∧ VRel G v v' := by
  have key : ∀ vs, resultsL X σ e rs = some vs → ∃ vs' : List Value, LRel G vs vs' ∧ (results fn tmps).run P w = .ok (if h : vs'.toArray.size = 1 then vs'.toArray[0] else .tuple vs'.toArray) w := by
    intro vs hvs
    obtain ⟨vs', e1, r⟩ := resultsL_run hg hw he _ rs vs h hvs
    refine ⟨vs', r, ?_⟩
    rw [results_resS, Array.mapM_eq_mapM_toList]
    simp only [Sem.run_bind, Sem.run_map]
    rw [e1]
    simp [Result.andThen]
  unfold resultsA at hr
  split at hr
  · rename_i v₁ hvs
    cases hr
    obtain ⟨vs', r, e1⟩ := key _ hvs
    simp only [LRel] at r
    obtain ⟨v', q, rfl, r1, rfl⟩ := r
    exact ⟨v', by rw [e1]; simp, r1⟩
  · rename_i vs hne hvs
    cases hr
    obtain ⟨vs', r, e1⟩ := key _ hvs
    have hl := r.length
    refine ⟨.tuple vs'.toArray, ?_, ⟨_, rfl, by simpa using r⟩⟩
    rw [e1, dif_neg]
    intro h1
    have : vs.length = 1 := by simpa [hl] using h1
    obtain ⟨x, rfl⟩ := List.length_eq_one_iff.1 this
    exact hne x rfl
  · cases hr

/-! Marks. -/

theorem marks_ext : ∀ (ms : List Nat) (σ σ₁ : AS), killMarks σ ms = some σ₁ → σ.Ext σ₁
  | [], σ, σ₁, h => by simp only [killMarks, Option.some.injEq] at h; subst h; exact .refl σ
  | m :: ms, σ, σ₁, h => by
    simp only [killMarks] at h
    split at h
    · rename_i hm
      exact (AS.Ext.set (o' := .dead) (refs := 0) hm fun _ _ _ => trivial).trans (marks_ext ms _ σ₁ h)
    · cases h

theorem marks_sound {n : Nat} {fn : Func} {tmps : Array Value} {R : Ending → World → Prop} {u : FrameMode} (hu : u ≠ .run) {G : Gh} : ∀ (ms : List Nat) (ds : List Deferred) (σ σ₁ : AS) (w : World), DRel ds₀ G ms ds → WRel P B w₀ G σ w → killMarks σ ms = some σ₁ →
    (∀ w', WRel P B w₀ G σ₁ w' → LeavesInM (W none) n P fn tmps R ds₀ u w') → LeavesInM (W none) n P fn tmps R ds u w
  | [], ds, σ, σ₁, w, hd, hw, hk, h => by
    simp only [DRel] at hd; subst hd
    simp only [killMarks, Option.some.injEq] at hk; subst hk
    exact h w hw
  | m :: ms, ds, σ, σ₁, w, hd, hw, hk, h => by
    simp only [DRel] at hd
    obtain ⟨d, r, k, rfl, h1, h2, h3, h4⟩ := hd
    simp only [killMarks] at hk
    split at hk
    · rename_i hm
      obtain ⟨g0, gb⟩ := hw.obj m _ hm h2.2
      have hkb := h3 g0
      subst hkb
      refine ⟨hu, .inl ⟨_, putB w (G.blk m) (.deferred none), h1, ?_, ?_⟩⟩
      · simp [Instr.takeDeferred, getObj, setObj, Sem.run, gb, putB]
      · exact marks_sound hu ms r (σ.set m .dead 0) σ₁ _ h4 (hw.put h2 0 trivial) hk h
    · cases hk

/-! Arguments. -/

theorem envOf_rel {G : Gh} {args : List AV} {args' : Array Value} (hl : LRel G args args'.toList) {nt : Nat} (hn : args.length ≤ nt) : ERel G nt (envOf args) (args' ++ Array.replicate (nt - args'.size) undef) := by
  have hsz : args'.size = args.length := by rw [← Array.length_toList]; exact hl.length
  refine ⟨by simp; omega, fun t v ht => ?_, fun t ht => ?_⟩
  · simp only [envOf, List.getD_eq_getElem?_getD]
    rw [Array.getElem?_append] at ht
    split at ht
    · rename_i hlt
      have hlt' : t < args.length := by omega
      obtain ⟨u, hu, hr⟩ := hl.get t args[t] (List.getElem?_eq_getElem hlt')
      rw [List.getElem?_eq_getElem hlt']
      have : some u = some v := by rw [← hu, ← ht]; simp
      cases this
      exact hr
    · rename_i hge
      have hge' : args.length ≤ t := by omega
      rw [List.getElem?_eq_none hge']
      rw [Array.getElem?_replicate] at ht
      split at ht
      · cases ht; exact undef_rel
      · cases ht
  · simp only [envOf, List.getD_eq_getElem?_getD]
    rw [List.getElem?_eq_none (by omega)]
    rfl

theorem setParams_rel {G : Gh} {nt : Nat} : ∀ (ps : List Nat) (args : List AV) (e : Env) (tmps : Array Value) (args' : List Value), ERel G nt e tmps → LRel G args args' → (∀ p ∈ ps, p < nt) → ERel G nt (setParams e ps args) ((ps.zip args').foldl (fun tmps (p : Nat × Value) => tmps.setIfInBounds p.1 p.2) tmps)
  | [], args, e, tmps, args', he, hl, hp => by simpa [setParams] using he
  | p :: ps, [], e, tmps, args', he, hl, hp => by
    simp only [LRel] at hl; subst hl
    simpa [setParams] using he
  | p :: ps, x :: xs, e, tmps, args', he, hl, hp => by
    simp only [LRel] at hl
    obtain ⟨v, q, rfl, h1, h2⟩ := hl
    simp only [setParams, List.zip_cons_cons, List.foldl_cons]
    exact setParams_rel ps xs _ _ q (he.set (hp p (by simp)) h1) h2 (fun y hy => hp y (by simp [hy]))

/-- A primitive does what the model does. -/
def PrimOk (P : Program) (B : Nat) (w₀ : World) (f : FuncId) (p : List AV → AS → Option CRes) : Prop :=
  ∀ args σ cr, p args σ = some cr → ∀ G w (args' : Array Value), WRel P B w₀ G σ w → LRel G args args'.toList → NextOk P (Ends P B w₀ G σ cr) ((callFunc f args').run P w)

section
variable {C : Caller} (hC : CallOk P B w₀ C) (hg : GlobOk X B w₀) (hX : CodeOk P X) (hdr : DrawOk P X B w₀) {L : Loops} (hL : LoopOk L)
include hC hg hX hdr hL

theorem func_sound {f : FuncId} {pf : PF} (hf : X.code f = some pf) {args : List AV} {σ : AS} {cr : CRes} (hn : args.length ≤ pf.ntmps)
    (h : leave X σ.heap.length σ.lo pf (runCode X C L f false pf.body { env := envOf args, marks := [] } { heap := σ.heap, lo := none }) = some cr) {G : Gh} {w : World} {args' : Array Value} (hw : WRel P B w₀ G σ w) (hl : LRel G args args'.toList) :
    CallsIn (W none) 0 P f args' w (Ends P B w₀ G σ cr) := by
  obtain ⟨rows, fn, hfn, hpre⟩ := hX f pf hf
  obtain ⟨c, hb, hcode, hres, hnt, hname⟩ := prepF_of hpre
  cases hrun : runCode X C L f false pf.body { env := envOf args, marks := [] } { heap := σ.heap, lo := none } with
  | none => rw [hrun] at h; simp [leave] at h
  | some res =>
    rw [hrun] at h
    have he : ERel G fn.ntmps (envOf args) (args' ++ Array.replicate (fn.ntmps - args'.size) undef) := envOf_rel hl (by rw [← hnt]; exact hn)
    refine callsIn_of_wp_marks hfn hb trivial (code_sound hC hg hX hdr hL (r := none) rfl c pf.body hcode G { heap := σ.heap, lo := none } w { env := envOf args, marks := [] } _ res _ (hw.lo none) he rfl hrun (fun e a w' hr => ?_)) rfl
    obtain ⟨G', q1, q2, q3, q4, q5, q6⟩ := hr
    obtain ⟨ex, fr, σ'⟩ := res
    have hret : leaveRet X σ.heap.length σ.lo pf fr σ' = some cr → LeavesInM (W none) 0 P fn a.tmps (Ends P B w₀ G σ cr) a.defers .returning w' := by
      intro h
      unfold leaveRet at h
      split at h
      · rename_i σ₁ hk
        split at h
        · rename_i v hv
          cases h
          refine marks_sound (by simp) fr.marks a.defers σ' σ₁ w' q4 q2 hk (fun w'' hw'' => ?_)
          obtain ⟨v', e1, r1⟩ := results_run hg hw'' q3 hres hv
          refine ⟨v', e1, ?_⟩
          obtain ⟨G₂, p1, p2, p3, p4⟩ := finish_sound hw q1 hw'' (q5.trans (marks_ext _ _ _ hk)) r1
          exact ⟨G₂, p1, p2, p3, p4⟩
        · cases h
      · cases h
    cases ex with
    | normal => cases e <;> simp [ExRel] at q6; exact hret h
    | ret => cases e <;> simp [ExRel] at q6; exact hret h
    | exit id => simp [leave] at h
    | panic v =>
      cases e <;> simp [ExRel] at q6
      rename_i chain
      obtain ⟨v', rfl, rv⟩ := q6
      simp only [leave] at h
      split at h
      · rename_i σ₁ hk
        cases h
        refine marks_sound (by simp) fr.marks a.defers σ' σ₁ w' q4 q2 hk (fun w'' hw'' => ?_)
        obtain ⟨G₂, p1, p2, p3, p4⟩ := finish_sound hw q1 hw'' (q5.trans (marks_ext _ _ _ hk)) rv
        exact ⟨G₂, v', rfl, p1, p2, p3, p4⟩
      · cases h

theorem round_sound {l : Nat} {args : List AV} {σ : AS} {cr : CRes} (h : runRound X C L l args σ = some cr) {G : Gh} {w : World} {args' : Array Value} (hw : WRel P B w₀ G σ w) (hon : G.on l) (hl : LRel G args args'.toList) :
    NextOk P (Ends P B w₀ G σ cr) ((Instr.yield (G.blk l) args').run P w) := by
  unfold runRound at h
  split at h
  · rename_i st pend f env ps assign body hobj
    split at h
    · rename_i hlen
      obtain ⟨o0, L₀, ob, os, oj, _, oe, op, ops', rows, oa, obd⟩ := hw.obj l _ hobj hon.2
      have hsz : args'.size = args.length := by rw [← Array.length_toList]; exact hl.length
      have hps : L₀.params.size = ps.length := by rw [← op]; simp
      have hy : (Instr.yield (G.blk l) args').run P w = .ok (.round (G.blk l) L₀.fn ((L₀.params.zip args').foldl (fun tmps (t, a) => tmps.setIfInBounds t a) L₀.tmps) L₀.assign L₀.body) w := by
        simp [Instr.yield, Instr.getLoop, getObj, Sem.run, ob, hsz, hps, hlen]
      rw [hy]
      have htm : (L₀.params.zip args').foldl (fun tmps (t, a) => tmps.setIfInBounds t a) L₀.tmps = (ps.zip args'.toList).foldl (fun tmps (p : Nat × Value) => tmps.setIfInBounds p.1 p.2) L₀.tmps := by
        rw [← Array.foldl_toList, Array.toList_zip, op]
      rw [htm]
      split at h
      · rename_i fr σ₁ ha
        split at h
        · rename_i pend' f' env' ps' as' bd' hobj1
          have he := setParams_rel ps args env L₀.tmps args'.toList oe hl (fun p hp => by simpa using List.all_eq_true.1 ops' p hp)
          refine roundIn_of_wpIn (F := W none) trivial (code_sound hC hg hX hdr hL (r := some (G.blk l)) (rd := true) (fid := f) rfl L₀.assign assign oa G { heap := σ.heap, lo := none } w { env := setParams env ps args, marks := [] } _ _ _ (hw.lo none) he rfl ha (fun e a w₁ hr => ?_))
          obtain ⟨G₁, q1, q2, q3, q4, q5, q6⟩ := hr
          cases e <;> simp [ExRel] at q6
          obtain ⟨p0, L₁, pb, pst, pj, _, pe, pp, pps, prows⟩ := q2.obj l _ hobj1 (q1.on l hon).2
          have hlid : G₁.on l := q1.on l hon
          have hlG : G.on l := hon
          have hblk : G₁.blk l = G.blk l := (q1.same l hlG (by rw [p0, o0])).1
          refine ⟨putB w₁ (G.blk l) (.loop { L₁ with state := .busy }), ?_, ?_⟩
          · rw [← hblk]
            simp [Instr.beginRound, Instr.getLoop, getObj, setObj, Sem.run, pb, pst, putB]
          · have hput : WRel P B w₀ G₁ (σ₁.set l (.loop .busy pend' f' env' ps' as' bd') 0) (putB w₁ (G.blk l) (.loop { L₁ with state := .busy })) := by
              have := q2.put hlid (O := .loop { L₁ with state := .busy }) (o' := .loop .busy pend' f' env' ps' as' bd') 0 ⟨p0, { L₁ with state := .busy }, putB_same (q2.low _ hlid).2, rfl, pj, trivial, pe, pp, pps, prows⟩
              rw [hblk] at this; exact this
            cases hrb : runCode X C L f true body fr (σ₁.set l (.loop .busy pend' f' env' ps' as' bd') 0) with
            | none => rw [hrb] at h; simp [endRound] at h
            | some res =>
              rw [hrb] at h
              refine code_sound hC hg hX hdr hL (r := some (G.blk l)) (rd := true) (fid := f) rfl L₀.body body obd G₁ _ _ fr a res _ hput q3 q4 hrb (fun e a' w₂ hr => ?_)
              obtain ⟨G₂, u1, u2, u3, u4, u5, u6⟩ := hr
              obtain ⟨ex, fr', σ₂⟩ := res
              simp only [endRound] at h
              split at h
              · rename_i j st'' pend'' f'' env'' ps'' as'' bd'' hj hobj2
                cases h
                obtain ⟨v0, L₂, vb, vst, vj, _, ve, vp, vps, vrows⟩ := u2.obj l _ hobj2 (u1.on l hlid).2
                have hlid2 : G₂.on l := u1.on l hlid
                have hblk2 : G₂.blk l = G.blk l := by rw [← hblk]; exact (u1.same l hlid (by rw [v0, p0])).1
                have hle2 := Gh.le_trans q1 u1
                have hext2 : AS.Ext { heap := σ.heap, lo := none } (σ₂.set l (.loop (if j.isNone then .ready else .done) j f'' env'' ps'' as'' bd'') 0) :=
                  ((q5.trans (AS.Ext.set (o' := .loop .busy pend' f' env' ps' as' bd') (refs := 0) hobj1 fun n hn _ => hn)).trans u5).trans (AS.Ext.set (o' := .loop (if j.isNone then .ready else .done) j f'' env'' ps'' as'' bd'') (refs := 0) hobj2 fun n hn _ => hn)
                have fin : ∀ (jc : Option Code), jumpRel j jc → ∃ v w', (Instr.endRound (G.blk l) jc).run P w₂ = .ok v w' ∧ Ends P B w₀ G σ (.ret (.bool j.isNone) (finish σ.heap.length σ.lo (.bool j.isNone) (σ₂.set l (.loop (if j.isNone then .ready else .done) j f'' env'' ps'' as'' bd'') 0)).2) (.returned v) w' := by
                  intro jc hjc
                  have hnone : jc.isNone = j.isNone := by
                    cases j with
                    | none => simp only [jumpRel] at hjc; subst hjc; rfl
                    | some p => cases p <;> simp only [jumpRel] at hjc <;> first | exact hjc.elim | (subst hjc; rfl)
                  refine ⟨.bool jc.isNone, putB w₂ (G.blk l) (.loop { L₂ with state := if jc.isNone then .ready else .done, pending := jc }), ?_, ?_⟩
                  · rw [← hblk2]
                    simp [Instr.endRound, Instr.getLoop, getObj, setObj, Sem.run, vb, putB]
                  · have hput2 : WRel P B w₀ G₂ (σ₂.set l (.loop (if j.isNone then .ready else .done) j f'' env'' ps'' as'' bd'') 0) (putB w₂ (G.blk l) (.loop { L₂ with state := if jc.isNone then .ready else .done, pending := jc })) := by
                      have := u2.put hlid2 (O := .loop { L₂ with state := if jc.isNone then .ready else .done, pending := jc }) (o' := .loop (if j.isNone then .ready else .done) j f'' env'' ps'' as'' bd'') 0
                        ⟨v0, { L₂ with state := if jc.isNone then .ready else .done, pending := jc }, putB_same (u2.low _ hlid2).2, by show (if jc.isNone = true then LoopState.ready else LoopState.done) = _; rw [hnone], hjc, trivial, ve, vp, vps, vrows⟩
                      rw [hblk2] at this; exact this
                    obtain ⟨G₃, s1, s2, s3, s4⟩ := finish_sound (v := .bool j.isNone) (v' := .bool jc.isNone) hw hle2 hput2 hext2 (by simp [VRel, hnone])
                    exact ⟨G₃, s1, s2, by simp [VRel, hnone], s4⟩
                cases ex with
                | normal =>
                  simp only [jumpCode, Option.some.injEq] at hj; subst hj
                  cases e <;> simp [ExRel] at u6
                  exact fin none rfl
                | ret =>
                  simp only [jumpCode, Option.some.injEq] at hj; subst hj
                  cases e <;> simp [ExRel] at u6
                  exact fin (some .ret) rfl
                | exit id =>
                  simp only [jumpCode, Option.some.injEq] at hj; subst hj
                  cases e <;> simp [ExRel] at u6
                  subst u6
                  exact fin (some (.exit id)) rfl
                | panic v => simp [jumpCode] at hj
              · cases h
        · cases h
      · cases h
    · cases h
  · cases h

theorem step_sound (hP : ∀ f p, X.prim f = some p → PrimOk P B w₀ f p) : CallOk P B w₀ (step X C L) := by
  intro fv args σ cr h G w fv' args' hw hfv hl
  unfold step at h
  split at h
  · rename_i f first cap
    simp only [VRel, fnRel] at hfv
    obtain ⟨f', first', cap', rfl, rfl, hf, hc⟩ := hfv
    have hcs : callS (.func (.func f) first' cap') args' = callFunc f (first' ++ args' ++ cap') := rfl
    rw [hcs]
    have hargs : LRel G (first ++ args ++ cap) (first' ++ args' ++ cap').toList := by
      simp only [Array.toList_append]
      exact (hf.append hl).append hc
    split at h
    · rename_i p hp
      exact hP f p hp _ _ _ h G w _ hw hargs
    · split at h
      · rename_i pf hpf
        split at h
        · rename_i hn
          obtain ⟨rows, fn, hfn, hpre⟩ := hX f pf hpf
          obtain ⟨c, hb, _, _, _, hname⟩ := prepF_of hpre
          have hrun := callS_code (P := P) hfn hb hname first' cap' args' w
          rw [hcs] at hrun
          rw [hrun]
          exact func_sound hC hg hX hdr hL hpf hn h hw hargs
        · cases h
      · cases h
  · rename_i l cap
    simp only [VRel, fnRel] at hfv
    obtain ⟨f', first', cap', rfl, ⟨hlt, k, rfl, hk⟩, hf, hc⟩ := hfv
    have hver : G.ver l = 0 := by
      unfold runRound at h
      split at h
      · rename_i st pend f env ps assign body hobj
        exact (hw.obj l _ hobj hlt.2).1
      · cases h
    have hkb := hk hver
    subst hkb
    have hfe : first' = #[] := by
      simp only [LRel] at hf
      apply Array.ext'; simpa using hf
    subst hfe
    have hcs : callS (.func (.yield (G.blk l)) #[] cap') args' = Instr.yield (G.blk l) (#[] ++ args') := rfl
    rw [hcs, Array.empty_append]
    exact round_sound hC hg hX hdr hL h hw hlt hl
  · cases h

end
end Go.Den

/- Den: two operations that are not tied come in either order. -/
namespace Go.Den
open Go Go.RowKit

variable {X : Ctx}

/-- What an instruction sees of the temporaries. -/
theorem opd_get {x : Opd} {e e' : Env} (h : ∀ t ∈ x.tmps, e t = e' t) : x.get e = x.get e' := by
  cases x with
  | t i => exact h i (by simp [Opd.tmps])
  | c v => rfl

theorem opdO_get {x : Option Opd} {e e' : Env} (h : ∀ y ∈ x.toList, ∀ t ∈ y.tmps, e t = e' t) : x.map (·.get e) = x.map (·.get e') := by
  cases x with
  | none => rfl
  | some y => simp only [Option.map_some]; rw [opd_get (h y (by simp))]

theorem opds_get {xs : List Opd} {e e' : Env} (h : ∀ t ∈ opdsTmps xs, e t = e' t) : xs.map (·.get e) = xs.map (·.get e') := by
  apply List.map_congr_left
  intro x hx
  exact opd_get fun t ht => h t (by simp only [opdsTmps, List.mem_flatMap]; exact ⟨x, hx, ht⟩)

theorem parts_get {ps : List (Nat × Nat × Opd)} {e e' : Env} (h : ∀ t ∈ opdsTmps (ps.map (·.2.2)), e t = e' t) : ps.map (fun p => (p.1, p.2.1, p.2.2.get e)) = ps.map (fun p => (p.1, p.2.1, p.2.2.get e')) := by
  apply List.map_congr_left
  intro p hp
  rw [opd_get fun t ht => h t (by simp only [opdsTmps, List.mem_flatMap, List.mem_map]; exact ⟨p.2.2, ⟨p, hp, rfl⟩, ht⟩)]

theorem opds2 {a b : Opd} {e e' : Env} (h : ∀ t ∈ opdsTmps [a, b], e t = e' t) : a.get e = a.get e' ∧ b.get e = b.get e' :=
  ⟨opd_get fun t ht => h t (by simp [opdsTmps, ht]), opd_get fun t ht => h t (by simp [opdsTmps, ht])⟩

theorem opds3 {a b c : Opd} {e e' : Env} (h : ∀ t ∈ opdsTmps [a, b, c], e t = e' t) : a.get e = a.get e' ∧ b.get e = b.get e' ∧ c.get e = c.get e' :=
  ⟨opd_get fun t ht => h t (by simp [opdsTmps, ht]), opd_get fun t ht => h t (by simp [opdsTmps, ht]), opd_get fun t ht => h t (by simp [opdsTmps, ht])⟩

theorem exec_env {C : Caller} {i : I} {e e' : Env} (h : ∀ t ∈ i.reads, e t = e' t) (σ : AS) : exec X C i e σ = exec X C i e' σ := by
  cases i with
  | mov x | box x | nilck x | un _ x | conv _ x | convs x | s2b x | b2s x | mki _ x | tai x _ _ | ta _ x _ _ | ext x _ | len _ x | clear _ x | panic x | usd x | rng x | nxt x | faddr _ x | fld _ _ _ x | load _ _ x =>
    simp only [exec, opd_get h]
  | alloc _ | mkmap | lenarr _ => rfl
  | pick a b c | mput _ a b c => obtain ⟨h1, h2, h3⟩ := opds3 h; simp only [exec, h1, h2, h3]
  | build _ ps | bslice _ _ ps | brow _ _ _ ps => simp only [exec, parts_get h]
  | store _ a v | bin _ a v | shf _ a v | eq _ a v | ne _ a v | mkslice _ _ _ a v | ustr _ a v | iaddra _ _ a v | iaddrs _ a v | idxa _ _ _ a v | idxs a v | lookup _ _ a v _ | append _ _ _ a v | appends _ a v | copy _ a v =>
    obtain ⟨h1, h2⟩ := opds2 h; simp only [exec, h1, h2]
  | mkf f a b =>
    simp only [exec]
    rw [opds_get (xs := a) fun t ht => h t (by simp only [I.reads, opdsTmps, List.flatMap_append, List.mem_append]; exact .inl ht),
      opds_get (xs := b) fun t ht => h t (by simp only [I.reads, opdsTmps, List.flatMap_append, List.mem_append]; exact .inr ht)]
  | slstr x lo hi | slarr _ _ x lo hi =>
    simp only [I.reads, opdsTmps, List.flatMap_cons, List.flatMap_append, List.mem_append, List.mem_flatMap] at h
    simp only [exec]
    rw [opd_get fun t ht => h t (.inl ht), opdO_get fun y hy t ht => h t (.inr (.inl ⟨y, hy, ht⟩)), opdO_get (x := hi) fun y hy t ht => h t (.inr (.inr ⟨y, hy, ht⟩))]
  | slsl _ x lo hi mx =>
    simp only [I.reads, opdsTmps, List.flatMap_cons, List.flatMap_append, List.mem_append, List.mem_flatMap] at h
    simp only [exec]
    rw [opd_get fun t ht => h t (.inl ht), opdO_get (x := lo) fun y hy t ht => h t (.inr (.inl (.inl ⟨y, hy, ht⟩))), opdO_get (x := hi) fun y hy t ht => h t (.inr (.inl (.inr ⟨y, hy, ht⟩))), opdO_get (x := mx) fun y hy t ht => h t (.inr (.inr ⟨y, hy, ht⟩))]
  | max xs | min xs => simp only [exec, opds_get h]
  | call f as =>
    simp only [I.reads, opdsTmps, List.flatMap_cons, List.mem_append] at h
    simp only [exec]
    rw [opd_get fun t ht => h t (.inl ht), opds_get fun t ht => h t (.inr ht)]

theorem fp_env {i : I} {e e' : Env} (h : ∀ t ∈ i.reads, e t = e' t) (σ σ' : AS) : fpOf i e σ σ' = fpOf i e' σ σ' := by
  cases i with
  | load _ _ x => simp only [fpOf, opd_get h]
  | store _ a v => obtain ⟨h1, _⟩ := opds2 h; simp only [fpOf, h1]
  | _ => rfl

/-- An instruction that hangs on temporaries alone. -/
theorem pure_exec {C : Caller} {i : I} {e : Env} (hc : i.cls = 0) : ∃ o, ∀ σ, exec X C i e σ = okv σ o := by
  cases i <;> simp only [I.cls, reduceCtorEq] at hc
  case mov x => exact ⟨some _, fun _ => rfl⟩
  case lenarr n => exact ⟨some _, fun _ => rfl⟩
  case mki t x => exact ⟨some _, fun _ => rfl⟩
  case mkf f a b => exact ⟨some _, fun _ => rfl⟩
  case nilck x => exact ⟨_, fun _ => rfl⟩
  case bin op x y => exact ⟨_, fun _ => rfl⟩
  case un op x => exact ⟨_, fun _ => rfl⟩
  case slstr x lo hi => exact ⟨_, fun _ => rfl⟩
  case slsl n x lo hi mx => exact ⟨_, fun _ => rfl⟩
  case slarr n sz x lo hi => exact ⟨_, fun _ => rfl⟩
  case faddr o x => exact ⟨_, fun _ => rfl⟩
  case iaddra n sz x i => exact ⟨_, fun _ => rfl⟩
  case iaddrs sz x i => exact ⟨_, fun _ => rfl⟩
  case idxa b n sz x i => exact ⟨_, fun _ => rfl⟩
  case idxs x i => exact ⟨_, fun _ => rfl⟩
  case tai x ok yes => exact ⟨_, fun _ => rfl⟩
  case ta z x t ok => exact ⟨_, fun _ => rfl⟩
  case max xs => exact ⟨_, fun _ => rfl⟩
  case min xs => exact ⟨_, fun _ => rfl⟩
  case pick c a b => cases h : c.get e <;> first | exact ⟨some _, fun _ => by simp only [exec, h]; rfl⟩ | exact ⟨none, fun _ => by simp only [exec, h]; rfl⟩
  case build z ps => cases h : fillA z (ps.map fun p => (p.1, p.2.1, p.2.2.get e)) <;> first | exact ⟨some _, fun _ => by simp only [exec, h]; rfl⟩ | exact ⟨none, fun _ => by simp only [exec, h]; rfl⟩
  case bslice z n ps => cases h : fillA (List.replicate n z).flatten (ps.map fun p => (p.1, p.2.1, p.2.2.get e)) <;> first | exact ⟨some _, fun _ => by simp only [exec, h]; rfl⟩ | exact ⟨none, fun _ => by simp only [exec, h]; rfl⟩
  case shf op x y =>
    cases h : x.get e <;> cases h' : y.get e <;> first | exact ⟨none, fun _ => by simp only [exec, h, h']; rfl⟩ | exact ⟨_, fun _ => by simp only [exec, h, h']; rfl⟩
  case eq k x y => cases h : eqA k (x.get e) (y.get e) <;> first | exact ⟨some _, fun _ => by simp only [exec, h]; rfl⟩ | exact ⟨none, fun _ => by simp only [exec, h]; rfl⟩
  case ne k x y => cases h : eqA k (x.get e) (y.get e) <;> first | exact ⟨some _, fun _ => by simp only [exec, h]; rfl⟩ | exact ⟨none, fun _ => by simp only [exec, h]; rfl⟩
  case conv k x => cases h : x.get e <;> first | exact ⟨some _, fun _ => by simp only [exec, h]; rfl⟩ | exact ⟨none, fun _ => by simp only [exec, h]; rfl⟩
  case convs x => cases h : x.get e <;> first | exact ⟨some _, fun _ => by simp only [exec, h]; rfl⟩ | exact ⟨none, fun _ => by simp only [exec, h]; rfl⟩
  case s2b x =>
    cases h : x.get e with
    | str s =>
      by_cases h' : s.size ≤ room
      · exact ⟨some _, fun _ => by simp only [exec, h, h', if_true]; rfl⟩
      · exact ⟨none, fun _ => by simp only [exec, h, h', if_false]; rfl⟩
    | _ => exact ⟨none, fun _ => by simp only [exec, h]; rfl⟩
  case fld b n off x => cases h : x.get e <;> first | exact ⟨none, fun _ => by simp only [exec, h]; rfl⟩ | exact ⟨_, fun _ => by simp only [exec, h]; rfl⟩
  case ext x i => cases h : x.get e <;> first | exact ⟨none, fun _ => by simp only [exec, h]; rfl⟩ | exact ⟨_, fun _ => by simp only [exec, h]; rfl⟩
  case usd x =>
    cases h : x.get e with
    | nils => exact ⟨some _, fun _ => by simp only [exec, h]; rfl⟩
    | ref id ver sz off len clip =>
      by_cases h' : 0 < len ∧ sz = 1
      · exact ⟨some _, fun _ => by simp only [exec, h]; rw [if_pos h']; rfl⟩
      · exact ⟨none, fun _ => by simp only [exec, h]; rw [if_neg h']; rfl⟩
    | _ => exact ⟨none, fun _ => by simp only [exec, h]; rfl⟩

theorem fp_cls0 {i : I} (hc : i.cls = 0) (e : Env) (σ σ' : AS) : fpOf i e σ σ' = .no := by
  cases i <;> simp only [I.cls, reduceCtorEq] at hc <;> rfl

/-- No footprint: the state is neither looked at nor turned. -/
theorem fp_no {C : Caller} {i : I} {e : Env} {σ σ' : AS} {v : AV} (hx : exec X C i e σ = some (.ok v σ')) (hf : fpOf i e σ σ' = .no) : σ' = σ ∧ ∀ σ₂, exec X C i e σ₂ = some (.ok v σ₂) ∧ fpOf i e σ₂ σ₂ = .no := by
  by_cases hc : i.cls = 0
  · obtain ⟨o, ho⟩ := pure_exec (X := X) (C := C) (e := e) hc
    rw [ho] at hx
    obtain ⟨rfl, rfl⟩ := okv_some hx
    exact ⟨rfl, fun σ₂ => ⟨by rw [ho]; rfl, fp_cls0 hc e _ _⟩⟩
  · cases i <;> simp only [I.cls, not_true_eq_false] at hc
    case load b n x =>
      simp only [exec] at hx
      obtain ⟨hv, rfl⟩ := okv_some hx
      refine ⟨rfl, fun σ₂ => ?_⟩
      simp only [fpOf] at hf ⊢
      unfold loadA at hv
      split at hf <;> first | cases hf | skip
      · rename_i h0
        rw [h0] at hv
        simp only at hv
        simp [exec, okv, loadA, h0, hv]
      · rename_i h0
        rw [h0] at hv
        simp only at hv
        simp [exec, okv, loadA, h0, hv]
    case store n a x => simp only [fpOf] at hf; split at hf <;> cases hf
    case len k x =>
      simp only [exec] at hx
      obtain ⟨hv, rfl⟩ := okv_some hx
      refine ⟨rfl, fun σ₂ => ⟨?_, hf⟩⟩
      have : lenA σ₂ k (x.get e) = lenA σ' k (x.get e) := by
        generalize x.get e = y
        cases k <;> first | rfl | (cases y <;> first | rfl | (rename_i c; cases c <;> rfl)) | (simp only [fpOf] at hf; cases hf)
      simp only [exec, this, hv, okv]
    case call f as => simp only [fpOf] at hf; split at hf <;> cases hf
    all_goals simp [fpOf] at hf

end Go.Den

/- Den: the swap of two operations. -/
namespace Go.Den
open Go Go.RowKit

variable {X : Ctx}

/-- Those that look alone. -/
theorem fp_look {C : Caller} {i : I} {e : Env} {σ σ' : AS} {v : AV} (hx : exec X C i e σ = some (.ok v σ')) (hf : fpOf i e σ σ' = .q ∨ ∃ id off n, fpOf i e σ σ' = .rd id off n) : σ' = σ := by
  cases i with
  | load b n x => simp only [exec] at hx; exact (okv_some hx).2
  | lookup kk z m k ok => simp only [exec] at hx; exact (okv_some hx).2
  | len k x => simp only [exec] at hx; exact (okv_some hx).2
  | b2s x =>
    simp only [exec] at hx
    split at hx
    · split at hx
      · cases hx; rfl
      · cases hx
    · cases hx
  | call f as =>
    simp only [fpOf] at hf
    split at hf
    · rename_i h; exact h
    · rcases hf with h | ⟨_, _, _, h⟩ <;> cases h
  | store n a x =>
    simp only [fpOf] at hf
    rcases hf with h | ⟨_, _, _, h⟩ <;> split at h <;> cases h
  | _ => rcases hf with h | ⟨_, _, _, h⟩ <;> simp [fpOf] at h

/-- The cells of a box. -/
def boxOf : Option AObj → Option (List AV)
  | some (.box cs _) => some cs
  | _ => none

theorem load_box {σ : AS} {b : Bool} {n id off : Nat} : loadA X σ b n (.ptr id off) = (boxOf σ.heap[id]?).bind fun cs => part b n cs off := by
  unfold loadA
  simp only
  cases h : σ.heap[id]? with
  | none => simp [boxOf]
  | some o => cases o <;> simp [boxOf]

theorem splice_get {cs vs : List AV} {off j : Nat} (h : off + vs.length ≤ cs.length) (hj : j < off ∨ off + vs.length ≤ j) : (splice cs off vs)[j]? = cs[j]? := by
  unfold splice
  rcases hj with hj | hj
  · rw [List.getElem?_append_left (by simp; omega), List.getElem?_take, if_pos hj]
  · rw [List.getElem?_append_right (by simp; omega), List.getElem?_append_right (by simp; omega), List.getElem?_drop]
    congr 1
    simp; omega

theorem splice_part {cs vs : List AV} {off off' n : Nat} {b : Bool} (h : off' + vs.length ≤ cs.length) (hd : off + Nat.max n 1 ≤ off' ∨ off' + vs.length ≤ off) : part b n (splice cs off' vs) off = part b n cs off := by
  have hm : n ≤ Nat.max n 1 := Nat.le_max_left _ _
  have hm1 : 1 ≤ Nat.max n 1 := Nat.le_max_right _ _
  unfold part
  rw [splice_length h]
  cases b with
  | false =>
    simp only [Bool.false_eq_true, if_false]
    exact splice_get h (by omega)
  | true =>
    simp only [if_true]
    split
    · congr 2
      apply List.ext_getElem?
      intro j
      simp only [List.getElem?_take, List.getElem?_drop]
      split
      · exact splice_get h (by omega)
      · rfl
    · rfl

/-- A store elsewhere does not turn what is loaded. -/
theorem load_store {C : Caller} {e : Env} {σ σ' : AS} {v : AV} {m : Nat} {a x : Opd} {id' off' k : Nat} (hx : exec X C (.store m a x) e σ = some (.ok v σ')) (hf : fpOf (.store m a x) e σ σ' = .wr id' off' k)
    {b : Bool} {n id off : Nat} (hd : id ≠ id' ∨ off + Nat.max n 1 ≤ off' ∨ off' + k ≤ off) : loadA X σ' b n (.ptr id off) = loadA X σ b n (.ptr id off) := by
  simp only [fpOf] at hf
  split at hf
  · rename_i i o ha
    cases hf
    simp only [exec, ha, storeA] at hx
    split at hx
    · rename_i σ'' hs
      cases hx
      split at hs
      · rename_i cs hcs
        split at hs
        · rename_i hc
          cases hs
          rw [load_box, load_box]
          by_cases hid : id = id'
          · subst hid
            have hlt : id < σ.heap.length := (List.getElem?_eq_some_iff.1 hcs).1
            have hd' : off + Nat.max n 1 ≤ off' ∨ off' + (x.get e).cells.length ≤ off := by
              rcases hd with hd | hd
              · exact absurd rfl hd
              · rw [hc.2.1]; exact hd
            simp only [AS.set, List.getElem?_set_self hlt, boxOf, hcs, Option.bind_some]
            exact splice_part (by omega) hd'
          · simp [AS.set, List.getElem?_set_ne (fun h => hid h.symm)]
        · cases hs
      · cases hs
    · cases hx
  · cases hf
  · cases hf

theorem load_append {σ σ' : AS} {ty : TypeId} {sz bytes : Nat} {s v : AV} {ys : List (List AV)} (h : appendA σ ty sz bytes s ys = some (v, σ')) {b : Bool} {n id off : Nat} : loadA X σ' b n (.ptr id off) = loadA X σ b n (.ptr id off) := by
  have push : ∀ (ver sz : Nat) (ty : TypeId) (els : List (List AV)), loadA X (σ.push (.row ver sz ty els)) b n (.ptr id off) = loadA X σ b n (.ptr id off) := by
    intro ver sz ty els
    rw [load_box, load_box]
    congr 1
    simp only [AS.push, List.getElem?_append]
    split
    · rfl
    · rename_i hge
      rw [List.getElem?_eq_none (by omega : σ.heap.length ≤ id)]
      cases hk : id - σ.heap.length <;> simp [boxOf]
  unfold appendA at h
  split at h
  · split at h
    · split at h
      · cases h; rfl
      · split at h
        · cases h; exact push _ _ _ _
        · cases h
    · split at h
      · cases h; rfl
      · split at h
        · cases h; exact push _ _ _ _
        · cases h
    · split at h
      · cases h; rfl
      · cases h
    · rename_i id' ver sz₁ off' len clip
      split at h
      · rename_i ver' sz' ty' els he
        split at h
        · split at h
          · cases h; rfl
          · split at h
            · cases h; exact push _ _ _ _
            · cases h
              rw [load_box, load_box]
              congr 1
              by_cases hid : id' = id
              · subst hid
                have hlt : id' < σ.heap.length := (List.getElem?_eq_some_iff.1 he).1
                rw [he]
                simp [AS.set, hlt, boxOf]
              · simp [AS.set, List.getElem?_set_ne hid]
        · cases h
      · cases h
    · cases h
  · cases h

theorem load_rptr {σ σ' : AS} {n id' ver i o : Nat} {x : AV} (h : storeA σ n (.rptr id' ver i o) x = some σ') {b : Bool} {m id off : Nat} : loadA X σ' b m (.ptr id off) = loadA X σ b m (.ptr id off) := by
  unfold storeA at h
  simp only at h
  split at h
  · rename_i w sz ty els he
    split at h
    · split at h
      · cases h
        rw [load_box, load_box]
        by_cases hid : id = id'
        · subst hid
          have hlt : id < σ.heap.length := (List.getElem?_eq_some_iff.1 he).1
          simp [AS.set, List.getElem?_set_self hlt, boxOf, he]
        · simp [AS.set, List.getElem?_set_ne (fun h => hid h.symm)]
      · cases h
    · cases h
  · cases h

theorem load_app {C : Caller} {i : I} {e : Env} {σ σ' : AS} {v : AV} (hx : exec X C i e σ = some (.ok v σ')) (hf : fpOf i e σ σ' = .app) {b : Bool} {n id off : Nat} : loadA X σ' b n (.ptr id off) = loadA X σ b n (.ptr id off) := by
  cases i with
  | append ty sz bytes s x =>
    simp only [exec] at hx
    split at hx
    · split at hx
      · rename_i h; cases hx; exact load_append h
      · cases hx
    · cases hx
  | appends ty s x =>
    simp only [exec] at hx
    split at hx
    · split at hx
      · rename_i h; cases hx; exact load_append h
      · cases hx
    · cases hx
  | load _ _ _ => simp only [fpOf] at hf; split at hf <;> cases hf
  | store m a x =>
    simp only [fpOf] at hf
    split at hf <;> first | cases hf | skip
    rename_i ha
    simp only [exec, ha] at hx
    split at hx
    · rename_i hs; cases hx; exact load_rptr hs
    · cases hx
  | len k x => simp only [fpOf] at hf; split at hf <;> cases hf
  | call _ _ => simp only [fpOf] at hf; split at hf <;> cases hf
  | _ => simp [fpOf] at hf

/-- What a load with a footprint is. -/
theorem rd_load {i : I} {e : Env} {σ σ' : AS} {id off k : Nat} (hf : fpOf i e σ σ' = .rd id off k) : ∃ b n a, i = .load b n a ∧ a.get e = .ptr id off ∧ k = Nat.max n 1 := by
  cases i with
  | load b n a =>
    simp only [fpOf] at hf
    split at hf <;> cases hf
    rename_i h
    exact ⟨b, n, a, rfl, h, rfl⟩
  | store _ _ _ => simp only [fpOf] at hf; split at hf <;> cases hf
  | len k x => simp only [fpOf] at hf; split at hf <;> cases hf
  | call _ _ => simp only [fpOf] at hf; split at hf <;> cases hf
  | _ => simp [fpOf] at hf

theorem wr_store {i : I} {e : Env} {σ σ' : AS} {id off k : Nat} (hf : fpOf i e σ σ' = .wr id off k) : ∃ n a x, i = .store n a x := by
  cases i with
  | load b n a => simp only [fpOf] at hf; split at hf <;> cases hf
  | store n a x => exact ⟨n, a, x, rfl⟩
  | len k x => simp only [fpOf] at hf; split at hf <;> cases hf
  | call _ _ => simp only [fpOf] at hf; split at hf <;> cases hf
  | _ => simp [fpOf] at hf

theorem exec_load {C : Caller} {b : Bool} {n : Nat} {a : Opd} {e : Env} {σ σ₂ : AS} {id off : Nat} {v : AV} {σ' : AS} (ha : a.get e = .ptr id off) (h : loadA X σ₂ b n (.ptr id off) = loadA X σ b n (.ptr id off)) (hx : exec X C (.load b n a) e σ = some (.ok v σ')) :
    exec X C (.load b n a) e σ₂ = some (.ok v σ₂) := by
  simp only [exec, ha] at hx ⊢
  obtain ⟨hv, _⟩ := okv_some hx
  rw [h, hv]; rfl

theorem fp_load_state {b : Bool} {n : Nat} {a : Opd} {e : Env} {σ σ' σ₁ σ₁' : AS} : fpOf (.load b n a) e σ σ' = fpOf (.load b n a) e σ₁ σ₁' := rfl

/-- **The swap**, where each sees its own temporaries. -/
theorem swap_core {C : Caller} {x y : I} {ex ey : Env} {σ σ₁ σ₂ : AS} {v w : AV} (h1 : exec X C x ex σ = some (.ok v σ₁)) (h2 : exec X C y ey σ₁ = some (.ok w σ₂)) (hok : (fpOf x ex σ σ₁).ok (fpOf y ey σ₁ σ₂) = true) :
    ∃ σ', exec X C y ey σ = some (.ok w σ') ∧ exec X C x ex σ' = some (.ok v σ₂) ∧ fpOf y ey σ σ' = fpOf y ey σ₁ σ₂ ∧ fpOf x ex σ' σ₂ = fpOf x ex σ σ₁ := by
  cases hx : fpOf x ex σ σ₁ with
  | no =>
    obtain ⟨rfl, hall⟩ := fp_no h1 hx
    exact ⟨σ₂, h2, (hall σ₂).1, rfl, by rw [(hall σ₂).2]⟩
  | rd id off n =>
    have e1 := fp_look h1 (.inr ⟨_, _, _, hx⟩)
    subst e1
    obtain ⟨b, m, a, rfl, ha, rfl⟩ := rd_load hx
    cases hy : fpOf y ey σ₁ σ₂ with
    | no =>
      obtain ⟨rfl, hall⟩ := fp_no h2 hy
      exact ⟨σ₂, h2, h1, hy, hx⟩
    | rd id' off' n' =>
      have e2 := fp_look h2 (.inr ⟨_, _, _, hy⟩); subst e2
      exact ⟨σ₂, h2, h1, hy, hx⟩
    | q =>
      have e2 := fp_look h2 (.inl hy); subst e2
      exact ⟨σ₂, h2, h1, hy, hx⟩
    | wr id' off' n' =>
      obtain ⟨m', a', x', rfl⟩ := wr_store hy
      rw [hx, hy] at hok
      refine ⟨σ₂, h2, exec_load ha (load_store h2 hy ?_) h1, hy, by rw [← hx]; rfl⟩
      simp only [FP.ok, Bool.or_eq_true, bne_iff_ne, decide_eq_true_eq] at hok
      rcases hok with (h | h) | h
      · exact .inl h
      · exact .inr (.inl h)
      · exact .inr (.inr h)
    | app => exact ⟨σ₂, h2, exec_load ha (load_app h2 hy) h1, hy, by rw [← hx]; rfl⟩
    | all => rw [hx, hy] at hok; simp [FP.ok] at hok
  | q =>
    have e1 := fp_look h1 (.inl hx)
    subst e1
    cases hy : fpOf y ey σ₁ σ₂ with
    | no =>
      obtain ⟨rfl, hall⟩ := fp_no h2 hy
      exact ⟨σ₂, h2, h1, hy, hx⟩
    | rd id' off' n' =>
      have e2 := fp_look h2 (.inr ⟨_, _, _, hy⟩); subst e2
      exact ⟨σ₂, h2, h1, hy, hx⟩
    | q =>
      have e2 := fp_look h2 (.inl hy); subst e2
      exact ⟨σ₂, h2, h1, hy, hx⟩
    | wr _ _ _ => rw [hx, hy] at hok; simp [FP.ok] at hok
    | app => rw [hx, hy] at hok; simp [FP.ok] at hok
    | all => rw [hx, hy] at hok; simp [FP.ok] at hok
  | wr id off n =>
    cases hy : fpOf y ey σ₁ σ₂ with
    | no =>
      obtain ⟨rfl, hall⟩ := fp_no h2 hy
      exact ⟨σ, (hall σ).1, h1, (hall σ).2, hx⟩
    | rd id' off' n' =>
      have e2 := fp_look h2 (.inr ⟨_, _, _, hy⟩); subst e2
      obtain ⟨b, m, a, rfl, ha, rfl⟩ := rd_load hy
      obtain ⟨m', a', x', rfl⟩ := wr_store hx
      rw [hx, hy] at hok
      refine ⟨σ, exec_load ha (load_store h1 hx ?_).symm h2, h1, by rw [← hy]; rfl, hx⟩
      simp only [FP.ok, Bool.or_eq_true, bne_iff_ne, decide_eq_true_eq] at hok
      rcases hok with (h | h) | h
      · exact .inl (fun e => h e.symm)
      · exact .inr (.inr h)
      · exact .inr (.inl h)
    | _ => rw [hx, hy] at hok; simp [FP.ok] at hok
  | app =>
    cases hy : fpOf y ey σ₁ σ₂ with
    | no =>
      obtain ⟨rfl, hall⟩ := fp_no h2 hy
      exact ⟨σ, (hall σ).1, h1, (hall σ).2, hx⟩
    | rd id' off' n' =>
      have e2 := fp_look h2 (.inr ⟨_, _, _, hy⟩); subst e2
      obtain ⟨b, m, a, rfl, ha, rfl⟩ := rd_load hy
      exact ⟨σ, exec_load ha (load_app h1 hx).symm h2, h1, by rw [← hy]; rfl, hx⟩
    | _ => rw [hx, hy] at hok; simp [FP.ok] at hok
  | all =>
    cases hy : fpOf y ey σ₁ σ₂ with
    | no =>
      obtain ⟨rfl, hall⟩ := fp_no h2 hy
      exact ⟨σ, (hall σ).1, h1, (hall σ).2, hx⟩
    | _ => rw [hx, hy] at hok; simp [FP.ok] at hok

end Go.Den

/- Den: runs in another order. -/
namespace Go.Den
open Go Go.RowKit

variable {X : Ctx}

/-- A run to its end, with the footprints. -/
def RunP (X : Ctx) (C : Caller) (xs : Nat → Ins) (F : Nat → FP) : List Nat → Fr → AS → Fr → AS → Prop
  | [], fr, σ, fr', σ' => fr' = fr ∧ σ' = σ
  | i :: l, fr, σ, fr', σ' =>
    (wantedA fr.env (xs i).g = true ∧ ∃ v σ₁, exec X C (xs i).i fr.env σ = some (.ok v σ₁) ∧ fpOf (xs i).i fr.env σ σ₁ = F i ∧ RunP X C xs F l (fr.put (xs i).dst v) σ₁ fr' σ') ∨
    (wantedA fr.env (xs i).g = false ∧ F i = .no ∧ RunP X C xs F l (fr.put (xs i).dst .undef) σ fr' σ')

theorem disj_iff {l m : List Nat} : disj l m = true ↔ ∀ x ∈ l, x ∉ m := by
  simp [disj, List.all_eq_true]

theorem put_env {fr : Fr} {dst : Option Nat} {v : AV} {t : Nat} (h : t ∉ dst.toList) : (fr.put dst v).env t = fr.env t := by
  cases dst with
  | none => rfl
  | some d =>
    simp only [Fr.put, Env.set]
    rw [if_neg]
    intro e; subst e; simp at h

theorem put_comm' {fr : Fr} {d d' : Option Nat} {v w : AV} (h : ∀ x ∈ d.toList, x ∉ d'.toList) : (fr.put d v).put d' w = (fr.put d' w).put d v := by
  cases d with
  | none => rfl
  | some a =>
    cases d' with
    | none => rfl
    | some b =>
      have hne : a ≠ b := fun e => h a (by simp) (by simp [e])
      simp only [Fr.put]
      congr 1
      funext t
      simp only [Env.set]
      by_cases h1 : t = a
      · subst h1; simp [hne]
      · simp [h1]

theorem wanted_env {g : Option (Nat × Bool)} {e e' : Env} (h : ∀ t ∈ (match g with | some (t, _) => [t] | none => []), e t = e' t) : wantedA e g = wantedA e' g := by
  cases g with
  | none => rfl
  | some p => obtain ⟨t, b⟩ := p; simp only [wantedA]; rw [h t (by simp)]

/-- Two neighbours change places. -/
theorem runP_swap {C : Caller} {xs : Nat → Ins} {F : Nat → FP} {i j : Nat} {l : List Nat} {fr fr' : Fr} {σ σ' : AS} (hap : apartI (xs i) (xs j) = true) (hok : (F i).ok (F j) = true) (h : RunP X C xs F (i :: j :: l) fr σ fr' σ') : RunP X C xs F (j :: i :: l) fr σ fr' σ' := by
  simp only [apartI, Bool.and_eq_true, disj_iff] at hap
  obtain ⟨⟨a1, a2⟩, a3⟩ := hap
  -- what each sees is what it saw
  have ey : ∀ v, ∀ t ∈ (xs j).reads, (fr.put (xs i).dst v).env t = fr.env t := fun v t ht => put_env fun hd => a1 t hd ht
  have ex : ∀ v, ∀ t ∈ (xs i).reads, (fr.put (xs j).dst v).env t = fr.env t := fun v t ht => put_env fun hd => a2 t hd ht
  have eyi : ∀ v, ∀ t ∈ (xs j).i.reads, (fr.put (xs i).dst v).env t = fr.env t := fun v t ht => ey v t (by simp [Ins.reads, ht])
  have exi : ∀ v, ∀ t ∈ (xs i).i.reads, (fr.put (xs j).dst v).env t = fr.env t := fun v t ht => ex v t (by simp [Ins.reads, ht])
  have wy : ∀ v, wantedA (fr.put (xs i).dst v).env (xs j).g = wantedA fr.env (xs j).g := fun v => wanted_env fun t ht => ey v t (by
    simp only [Ins.reads, List.mem_append]; right; exact ht)
  have wx : ∀ v, wantedA (fr.put (xs j).dst v).env (xs i).g = wantedA fr.env (xs i).g := fun v => wanted_env fun t ht => ex v t (by
    simp only [Ins.reads, List.mem_append]; right; exact ht)
  have comm : ∀ v w, (fr.put (xs i).dst v).put (xs j).dst w = (fr.put (xs j).dst w).put (xs i).dst v := fun v w => put_comm' a3
  simp only [RunP] at h ⊢
  rcases h with ⟨h1, v, σ₁, h2, h3, h⟩ | ⟨h1, h3, h⟩
  · rcases h with ⟨g1, w, σ₂, g2, g3, g⟩ | ⟨g1, g3, g⟩
    · rw [wy] at g1
      have g2' : exec X C (xs j).i fr.env σ₁ = some (.ok w σ₂) := by rw [← exec_env (eyi v)]; exact g2
      have g3' : fpOf (xs j).i fr.env σ₁ σ₂ = F j := by rw [← fp_env (eyi v)]; exact g3
      obtain ⟨σ₃, k1, k2, k3, k4⟩ := swap_core h2 g2' (by rw [h3, g3']; exact hok)
      refine .inl ⟨g1, w, σ₃, k1, by rw [k3]; exact g3', .inl ⟨by rw [wx]; exact h1, v, σ₂, ?_, ?_, by rw [← comm]; exact g⟩⟩
      · rw [exec_env (exi w)]; exact k2
      · rw [fp_env (exi w), k4]; exact h3
    · rw [wy] at g1
      refine .inr ⟨g1, g3, .inl ⟨by rw [wx]; exact h1, v, σ₁, ?_, ?_, by rw [← comm]; exact g⟩⟩
      · rw [exec_env (exi _)]; exact h2
      · rw [fp_env (exi _)]; exact h3
  · rcases h with ⟨g1, w, σ₂, g2, g3, g⟩ | ⟨g1, g3, g⟩
    · rw [wy] at g1
      refine .inl ⟨g1, w, σ₂, by rw [← exec_env (eyi _)]; exact g2, by rw [← fp_env (eyi _)]; exact g3, .inr ⟨by rw [wx]; exact h1, h3, by rw [← comm]; exact g⟩⟩
    · rw [wy] at g1
      exact .inr ⟨g1, g3, .inr ⟨by rw [wx]; exact h1, h3, by rw [← comm]; exact g⟩⟩

/-- One comes to the front. -/
theorem runP_front {C : Caller} {xs : Nat → Ins} {F : Nat → FP} {j : Nat} {l₂ : List Nat} : ∀ (l₁ : List Nat) (fr fr' : Fr) (σ σ' : AS), (∀ i ∈ l₁, apartI (xs i) (xs j) = true ∧ (F i).ok (F j) = true) → RunP X C xs F (l₁ ++ j :: l₂) fr σ fr' σ' → RunP X C xs F (j :: (l₁ ++ l₂)) fr σ fr' σ'
  | [], _, _, _, _, _, h => h
  | i :: l₁, fr, fr', σ, σ', hl, h => by
    have hi := hl i (by simp)
    refine runP_swap hi.1 hi.2 ?_
    simp only [List.cons_append] at h
    rw [RunP] at h ⊢
    have ih := fun fr σ (h : RunP X C xs F (l₁ ++ j :: l₂) fr σ fr' σ') => runP_front l₁ fr fr' σ σ' (fun k hk => hl k (by simp [hk])) h
    rcases h with ⟨h1, v, σ₁, h2, h3, h⟩ | ⟨h1, h3, h⟩
    · exact .inl ⟨h1, v, σ₁, h2, h3, ih _ _ h⟩
    · exact .inr ⟨h1, h3, ih _ _ h⟩

/-- The evaluator's run is such a run. -/
theorem runP_of {C : Caller} {xs : Nat → Ins} : ∀ (ys : List (Ins × List Nat)) (fps : List FP) (fr : Fr) (σ : AS) (res : Ex × Fr × AS), (∀ q y, ys[q]? = some y → xs (fps.length + q) = y.1) → runOpsD X C fps ys fr σ = some res → res.1 = .normal →
    ∃ F : Nat → FP, (∀ m, m < fps.length → F m = fps.getD m .all) ∧ res.1 = .normal ∧ RunP X C xs F ((List.range ys.length).map (fps.length + ·)) fr σ res.2.1 res.2.2 ∧
      ∀ q y, ys[q]? = some y → ∀ k ∈ y.2, k < fps.length + q → (F k).ok (F (fps.length + q)) = true
  | [], fps, fr, σ, res, hx, h, hn => by
    simp only [runOpsD, Option.some.injEq] at h
    subst h
    exact ⟨fun m => fps.getD m .all, fun _ _ => rfl, rfl, ⟨rfl, rfl⟩, by simp⟩
  | o :: ys, fps, fr, σ, res, hx, h, hn => by
    have hx0 : xs fps.length = o.1 := by simpa using hx 0 o rfl
    have hxs : ∀ (f : FP) q y, ys[q]? = some y → xs ((fps ++ [f]).length + q) = y.1 := by
      intro f q y hq
      have := hx (q + 1) y (by simpa using hq)
      rw [← this]; congr 1; simp; omega
    have hmap : ∀ f : FP, (List.range (o :: ys).length).map (fps.length + ·) = fps.length :: (List.range ys.length).map ((fps ++ [f]).length + ·) := by
      intro f
      simp only [List.length_cons, List.range_succ_eq_map, List.map_cons, List.map_map, Nat.add_zero]
      congr 1
      apply List.map_congr_left
      intro k _
      simp; omega
    have fin : ∀ (f : FP) (F : Nat → FP), (∀ m, m < (fps ++ [f]).length → F m = (fps ++ [f]).getD m .all) → F fps.length = f ∧ ∀ m, m < fps.length → F m = fps.getD m .all := by
      intro f F hF
      refine ⟨?_, fun m hm => ?_⟩
      · rw [hF _ (by simp)]; simp
      · rw [hF m (by simp; omega)]; simp [List.getD_eq_getElem?_getD, List.getElem?_append_left hm]
    have pairs : ∀ (f : FP) (F : Nat → FP), (∀ m, m < fps.length → F m = fps.getD m .all) → (∀ k ∈ o.2, k < fps.length → (fps.getD k .all).ok (F fps.length) = true) →
        (∀ q y, ys[q]? = some y → ∀ k ∈ y.2, k < (fps ++ [f]).length + q → (F k).ok (F ((fps ++ [f]).length + q)) = true) →
        ∀ q y, (o :: ys)[q]? = some y → ∀ k ∈ y.2, k < fps.length + q → (F k).ok (F (fps.length + q)) = true := by
      intro f F hF h0 hs q y hq k hk hlt
      cases q with
      | zero =>
        simp at hq; subst hq
        rw [Nat.add_zero] at hlt ⊢
        rw [hF k hlt]; exact h0 k hk hlt
      | succ q =>
        have := hs q y (by simpa using hq) k hk (by simp; omega)
        have e : (fps ++ [f]).length + q = fps.length + (q + 1) := by simp; omega
        rw [e] at this; exact this
    simp only [runOpsD] at h
    split at h
    · rename_i hw
      split at h
      · rename_i v σ₁ hex
        split at h
        · rename_i hall
          obtain ⟨F, f1, f2, f3, f4⟩ := runP_of ys _ _ _ res (hxs _) h hn
          obtain ⟨g1, g2⟩ := fin _ F f1
          refine ⟨F, g2, f2, ?_, pairs _ F g2 (fun k hk _ => ?_) f4⟩
          · rw [hmap (fpOf o.1.i fr.env σ σ₁)]
            refine .inl ⟨by rw [hx0]; exact hw, v, σ₁, by rw [hx0]; exact hex, by rw [hx0, g1], by rw [hx0]; exact f3⟩
          · rw [g1]
            exact List.all_eq_true.1 hall k hk
        · cases h
      · split at h
        · cases h; cases hn
        · cases h
      · cases h
    · rename_i hw
      obtain ⟨F, f1, f2, f3, f4⟩ := runP_of ys _ _ _ res (hxs _) h hn
      obtain ⟨g1, g2⟩ := fin _ F f1
      refine ⟨F, g2, f2, ?_, pairs _ F g2 (fun k hk _ => ?_) f4⟩
      · rw [hmap .no]
        exact .inr ⟨by rw [hx0]; simpa using hw, g1, by rw [hx0]; exact f3⟩
      · rw [g1]; cases fps.getD k .all <;> rfl

/-- A run that ends in a panic. -/
theorem runP_panic {C : Caller} {xs : Nat → Ins} : ∀ (ys : List (Ins × List Nat)) (fps : List FP) (fr : Fr) (σ : AS) (res : Ex × Fr × AS), (∀ q y, ys[q]? = some y → xs (fps.length + q) = y.1) → runOpsD X C fps ys fr σ = some res → res.1 ≠ .normal →
    ∃ (F : Nat → FP) (p : Nat) (v : AV) (σ₁ : AS) (y : Ins × List Nat), (∀ m, m < fps.length → F m = fps.getD m .all) ∧ ys[p]? = some y ∧ res.1 = .panic v ∧ RunP X C xs F ((List.range p).map (fps.length + ·)) fr σ res.2.1 σ₁ ∧
      wantedA res.2.1.env (xs (fps.length + p)).g = true ∧ exec X C (xs (fps.length + p)).i res.2.1.env σ₁ = some (.panic v res.2.2) ∧
      (∀ q y, q < p → ys[q]? = some y → ∀ k ∈ y.2, k < fps.length + q → (F k).ok (F (fps.length + q)) = true) ∧
      y.2 = [] ∧ y.1.i.cls ≠ 0 ∧ (∀ m, m < fps.length + p → F m ≠ .no) ∧ ∀ q y', p < q → ys[q]? = some y' → if y'.1.i.cls = 0 then apartI y.1 y'.1 = false else fps.length + p ∉ y'.2
  | [], fps, fr, σ, res, hx, h, hn => by
    simp only [runOpsD, Option.some.injEq] at h
    subst h
    exact absurd rfl hn
  | o :: ys, fps, fr, σ, res, hx, h, hn => by
    have hx0 : xs fps.length = o.1 := by simpa using hx 0 o rfl
    have hxs : ∀ (f : FP) q y, ys[q]? = some y → xs ((fps ++ [f]).length + q) = y.1 := by
      intro f q y hq
      have := hx (q + 1) y (by simpa using hq)
      rw [← this]; congr 1; simp; omega
    have hmap : ∀ (f : FP) (p : Nat), (List.range (p + 1)).map (fps.length + ·) = fps.length :: (List.range p).map ((fps ++ [f]).length + ·) := by
      intro f p
      simp only [List.range_succ_eq_map, List.map_cons, List.map_map, Nat.add_zero]
      congr 1
      apply List.map_congr_left
      intro k _
      simp; omega
    have e1 : ∀ (f : FP) (q : Nat), (fps ++ [f]).length + q = fps.length + (q + 1) := fun f q => by simp; omega
    have fin : ∀ (f : FP) (F : Nat → FP), (∀ m, m < (fps ++ [f]).length → F m = (fps ++ [f]).getD m .all) → F fps.length = f ∧ ∀ m, m < fps.length → F m = fps.getD m .all := by
      intro f F hF
      refine ⟨?_, fun m hm => ?_⟩
      · rw [hF _ (by simp)]; simp
      · rw [hF m (by simp; omega)]; simp [List.getD_eq_getElem?_getD, List.getElem?_append_left hm]
    have next : ∀ (f : FP) (fr₂ : Fr) (σ₂ : AS), runOpsD X C (fps ++ [f]) ys fr₂ σ₂ = some res → (∀ (F : Nat → FP) l fr' σ', F fps.length = f → RunP X C xs F l fr₂ σ₂ fr' σ' → RunP X C xs F (fps.length :: l) fr σ fr' σ') → (∀ k ∈ o.2, (fps.getD k .all).ok f = true) →
        ∃ (F : Nat → FP) (p : Nat) (v : AV) (σ₁ : AS) (y : Ins × List Nat), (∀ m, m < fps.length → F m = fps.getD m .all) ∧ (o :: ys)[p]? = some y ∧ res.1 = .panic v ∧ RunP X C xs F ((List.range p).map (fps.length + ·)) fr σ res.2.1 σ₁ ∧
          wantedA res.2.1.env (xs (fps.length + p)).g = true ∧ exec X C (xs (fps.length + p)).i res.2.1.env σ₁ = some (.panic v res.2.2) ∧
          (∀ q y, q < p → (o :: ys)[q]? = some y → ∀ k ∈ y.2, k < fps.length + q → (F k).ok (F (fps.length + q)) = true) ∧
          y.2 = [] ∧ y.1.i.cls ≠ 0 ∧ (∀ m, m < fps.length + p → F m ≠ .no) ∧ ∀ q y', p < q → (o :: ys)[q]? = some y' → if y'.1.i.cls = 0 then apartI y.1 y'.1 = false else fps.length + p ∉ y'.2 := by
      intro f fr₂ σ₂ h hrun hok
      obtain ⟨F, p, v, σ₁, y, f1, f2, f3, f4, f5, f6, f7, f8, f9, f10, f11⟩ := runP_panic ys _ _ _ res (hxs f) h hn
      obtain ⟨g1, g2⟩ := fin f F f1
      refine ⟨F, p + 1, v, σ₁, y, g2, by simpa using f2, f3, ?_, by rw [← e1 f]; exact f5, by rw [← e1 f]; exact f6, ?_, f8, f9, fun m hm => f10 m (by rw [e1]; exact hm), ?_⟩
      · rw [hmap f]
        exact hrun F _ _ _ g1 f4
      · intro q y' hq hy k hk hlt
        cases q with
        | zero =>
          simp at hy; subst hy
          rw [Nat.add_zero] at hlt ⊢
          rw [g1, g2 k hlt]; exact hok k hk
        | succ q =>
          have := f7 q y' (by omega) (by simpa using hy) k hk (by rw [e1]; exact hlt)
          rw [e1] at this; exact this
      · intro q y' hq hy
        cases q with
        | zero => omega
        | succ q =>
          have := f11 q y' (by omega) (by simpa using hy)
          rw [e1] at this; exact this
    simp only [runOpsD] at h
    split at h
    · rename_i hw
      split at h
      · rename_i v σ₁ hex
        split at h
        · rename_i hall
          exact next _ _ _ h (fun F l fr' σ' hF hr => .inl ⟨by rw [hx0]; exact hw, v, σ₁, by rw [hx0]; exact hex, by rw [hx0, hF], by rw [hx0]; exact hr⟩) (fun k hk => List.all_eq_true.1 hall k hk)
        · cases h
      · rename_i v σ' hex
        split at h
        · rename_i hp
          cases h
          simp only [panicOk, Bool.and_eq_true, List.isEmpty_iff, bne_iff_ne] at hp
          obtain ⟨p1, p2, p3, p4⟩ := hp
          refine ⟨fun m => fps.getD m .all, 0, v, σ, o, fun _ _ => rfl, rfl, rfl, ⟨rfl, rfl⟩, by rw [Nat.add_zero, hx0]; exact hw, by rw [Nat.add_zero, hx0]; exact hex, fun q y hq => by omega, p1, p2, ?_, ?_⟩
          · intro m hm
            rw [Nat.add_zero] at hm
            have := List.all_eq_true.1 p3 fps[m] (List.getElem_mem hm)
            simp only [List.getD_eq_getElem?_getD, List.getElem?_eq_getElem hm, Option.getD_some]
            intro e; rw [e] at this; cases this
          · intro q y' hq hy
            cases q with
            | zero => omega
            | succ q =>
              have := List.all_eq_true.1 p4 y' (List.mem_of_getElem? (by simpa using hy : ys[q]? = some y'))
              split
              · rename_i hc
                rw [if_pos hc] at this; simpa using this
              · rename_i hc
                rw [if_neg hc] at this
                rw [Nat.add_zero]; simpa using this
        · cases h
      · cases h
    · rename_i hw
      exact next .no _ _ h (fun F l fr' σ' hF hr => .inr ⟨by rw [hx0]; simpa using hw, hF, by rw [hx0]; exact hr⟩) (fun k hk => by cases fps.getD k .all <;> rfl)

end Go.Den

/- Den: regions that draw their order. -/
namespace Go.Den
open Go Go.RowKit

variable {P : Program} {X : Ctx} {B : Nat} {w₀ : World} {ds₀ : List Deferred}

theorem ok_no_left (f : FP) : FP.ok .no f = true := by cases f <;> rfl
theorem ok_no_right (f : FP) : FP.ok f .no = true := by cases f <;> rfl

theorem runP_cls0 {C : Caller} {xs : Nat → Ins} {F : Nat → FP} {i : Nat} (hc : (xs i).i.cls = 0) : ∀ (l : List Nat) (fr fr' : Fr) (σ σ' : AS), i ∈ l → RunP X C xs F l fr σ fr' σ' → F i = .no
  | [], _, _, _, _, hi, _ => by cases hi
  | j :: l, fr, fr', σ, σ', hi, h => by
    rw [RunP] at h
    rcases List.mem_cons.1 hi with rfl | hi
    · rcases h with ⟨_, v, σ₁, _, h3, _⟩ | ⟨_, h3, _⟩
      · rw [← h3]; exact fp_cls0 hc _ _ _
      · exact h3
    · rcases h with ⟨_, v, σ₁, _, _, h⟩ | ⟨_, _, h⟩
      · exact runP_cls0 hc l _ _ _ _ hi h
      · exact runP_cls0 hc l _ _ _ _ hi h

theorem prepOps_get {rows : Bool} {ops : Array Oper} : ∀ {os : List Oper} {xs : List Ins}, prepOps P rows ops os = some xs → xs.length = os.length ∧ ∀ (i : Nat) (o : Oper), os[i]? = some o → ∃ x, xs[i]? = some x ∧ prepOper P rows ops o = some x
  | [], xs, h => by
    simp only [prepOps, Option.some.injEq] at h; subst h
    exact ⟨rfl, by simp⟩
  | o :: os, xs, h => by
    simp only [prepOps] at h
    split at h
    · rename_i x xs' h1 h2
      cases h
      obtain ⟨e1, e2⟩ := prepOps_get h2
      refine ⟨by simp [e1], fun i o' ho => ?_⟩
      cases i with
      | zero => simp at ho; subst ho; exact ⟨x, by simp, h1⟩
      | succ i => simpa using e2 i o' (by simpa using ho)
    · cases h

theorem masks_get {ops : Array Oper} {e : Nat} : ∀ n : Nat, e < n → (masks ops n).getD (n - 1 - e) 0 = (masks ops (e + 1)).headD 0
  | 0, h => absurd h (Nat.not_lt_zero _)
  | n + 1, h => by
    by_cases he : e = n
    · subst he; rw [show e + 1 - 1 - e = 0 by omega]; simp [masks]
    · have h2 : e < n := by omega
      rw [show n + 1 - 1 - e = (n - 1 - e) + 1 by omega, ← masks_get n h2]
      simp [masks]

theorem maskE_bit {ms : List Nat} {n a : Nat} {S : Nat → Prop} : ∀ es : List Nat, (∀ e ∈ es, S e) → (∀ e ∈ es, e < n → Nat.testBit (ms.getD (n - 1 - e) 0) a = true → S a) → Nat.testBit (maskE ms n es) a = true → S a
  | [], _, _, h => by simp [maskE] at h
  | e :: es, h1, h2, h => by
    have e1 : maskE ms n (e :: es) = (1 <<< e ||| (if e < n then ms.getD (n - 1 - e) 0 else 0)) ||| maskE ms n es := rfl
    rw [e1, Nat.testBit_or, Nat.testBit_or, Bool.or_eq_true, Bool.or_eq_true] at h
    rcases h with (h | h) | h
    · rw [Nat.one_shiftLeft, Nat.testBit_two_pow, decide_eq_true_eq] at h
      subst h; exact h1 _ (List.mem_cons_self ..)
    · by_cases he : e < n
      · rw [if_pos he] at h; exact h2 e (List.mem_cons_self ..) he h
      · rw [if_neg he] at h; simp at h
    · exact maskE_bit es (fun x hx => h1 x (List.mem_cons_of_mem _ hx)) (fun x hx => h2 x (List.mem_cons_of_mem _ hx)) h

/-- What lies behind an operation is listed. -/
theorem anc_listed {ops : Array Oper} {S : Nat → Prop} (hcl : ∀ j, S j → ∀ o, ops[j]? = some o → ∀ a ∈ edges o, S a) (k i : Nat) (o : Oper) (ho : ops[i]? = some o) (he : ∀ a ∈ edges o, S a) : ∀ a ∈ anc ops k i, S a := by
  intro a h
  unfold anc at h
  rw [List.mem_filter] at h
  have key : ∀ n i : Nat, i < n → ∀ o, ops[i]? = some o → (∀ a ∈ edges o, S a) → Nat.testBit ((masks ops (i + 1)).headD 0) a = true → S a := by
    intro n
    induction n with
    | zero => intro i hi; exact absurd hi (Nat.not_lt_zero _)
    | succ n ih =>
      intro i hi o ho he hb
      simp only [masks, List.headD_cons, ho] at hb
      refine maskE_bit _ he (fun e hm hlt hb2 => ?_) hb
      rw [masks_get i hlt] at hb2
      cases hoe : ops[e]? with
      | none => simp [masks, hoe, maskE] at hb2
      | some o' => exact ih e (by omega) o' hoe (hcl e (he e hm) o' hoe) hb2
  exact key (i + 1) i (by omega) o ho he h.2

theorem binds_any {md : Region.Mode} {e : Edge} (h : Region.binds .any e = true) : Region.binds md e = true := by
  unfold Region.binds at h ⊢
  cases hgr : e.ground <;> rw [hgr] at h <;> first | rfl | (exfalso; revert h; simp [BEq.beq]) | (cases h)

/-- As long as something is left, something is ready. -/
theorem ord_ready {md : Region.Mode} {ops : Array Oper} {l : List Nat} {S : Nat → Prop} (hS : ∀ x, x < ops.size → x ∉ l → S x) : ∀ (ord pre : List Nat), ordGo md ops pre ord = true → (∀ x ∈ pre, x < ops.size ∧ x ∉ l) → (∃ x ∈ ord, x ∈ l) →
    ∃ x ∈ l, ∃ o, ops[x]? = some o ∧ ∀ e ∈ o.after.toList, Region.binds md e = true → S e.on
  | [], _, _, _, ⟨x, hx, _⟩ => by cases hx
  | i :: ord, pre, h, hpre, hex => by
    simp only [ordGo, Bool.and_eq_true] at h
    obtain ⟨h1, h2⟩ := h
    split at h1
    · rename_i o ho
      by_cases hil : i ∈ l
      · refine ⟨i, hil, o, ho, fun e he hb => ?_⟩
        have := List.all_eq_true.1 h1 e he
        rw [hb] at this
        simp only [Bool.not_true, Bool.false_or, List.contains_iff_mem] at this
        obtain ⟨q1, q2⟩ := hpre e.on this
        exact hS _ q1 q2
      · refine ord_ready hS ord (i :: pre) h2 (fun x hx => ?_) ?_
        · rcases List.mem_cons.1 hx with rfl | hx
          · exact ⟨(Array.getElem?_eq_some_iff.1 ho).1, hil⟩
          · exact hpre x hx
        · obtain ⟨x, hx, hxl⟩ := hex
          rcases List.mem_cons.1 hx with rfl | hx
          · exact absurd hxl hil
          · exact ⟨x, hx, hxl⟩
    · cases h1

/-! Objects that the model has not laid yet. -/

/-- They are put behind the others. -/
def Gh.later (G : Gh) (os : List AObj) : Gh := { G with n := G.n + os.length, pz := fun i => if i < G.n then G.pz i else os[i - G.n]? }

theorem Gh.le_later (G : Gh) (os : List AObj) : G.le (G.later os) :=
  .mk' (fun _ _ _ h => h) (by simp [Gh.later]) (fun i hi => by simp [Gh.later, hi]) (fun _ _ => Nat.le_refl _) (fun _ _ _ => ⟨rfl, rfl, rfl, rfl⟩)

theorem Gh.on_later {G : Gh} {os : List AObj} {i : Nat} (h : (G.later os).on i) : G.on i := by
  obtain ⟨h1, h2⟩ := h
  simp only [Gh.later] at h1 h2
  by_cases hi : i < G.n
  · rw [if_pos hi] at h2; exact ⟨hi, h2⟩
  · rw [if_neg hi, List.getElem?_eq_getElem (by omega)] at h2; cases h2

theorem WRel.later {G : Gh} {σ : AS} {w : World} (h : WRel P B w₀ G σ w) {os : List AObj} (ho : ∀ o ∈ os, ∃ z tg, o = .box z tg ∧ refsL z = 0) : WRel P B w₀ (G.later os) (σ.pushL os) w where
  len := by simp [Gh.later, AS.pushL, h.len]
  frz := h.frz
  obj id o e hz := by
    simp only [Gh.later] at hz
    simp only [AS.pushL] at e
    by_cases hi : id < G.n
    · rw [if_pos hi] at hz
      rw [List.getElem?_append_left (by rw [← h.len]; exact hi)] at e
      exact ORel.mono (G.le_later os) ⟨hi, hz⟩ rfl rfl (h.obj id o e hz)
    · rw [if_neg hi] at hz
      rw [List.getElem?_append_right (by rw [← h.len]; omega), ← h.len, hz] at e; cases e
  inj i j hi hj e := h.inj i j (Gh.on_later hi) (Gh.on_later hj) e
  sep i hi o := h.sep i (Gh.on_later hi) o
  low i hi := h.low i (Gh.on_later hi)
  bel := h.bel
  hB := h.hB
  pob id o hid hz := by
    simp only [Gh.later] at hid hz
    simp only [AS.pushL]
    by_cases hi : id < G.n
    · rw [if_pos hi] at hz
      obtain ⟨q1, q2⟩ := h.pob id o hi hz
      exact ⟨by rw [List.getElem?_append_left (by rw [← h.len]; exact hi)]; exact q1, q2⟩
    · rw [if_neg hi] at hz
      exact ⟨by rw [List.getElem?_append_right (by rw [← h.len]; omega), ← h.len]; exact hz, ho o (List.mem_of_getElem? hz)⟩
  old := h.old

theorem AS.Ext.pushL (σ : AS) (os : List AObj) : σ.Ext (σ.pushL os) where
  len := by simp [AS.pushL]
  lo _ h := h
  obj j x e := ⟨x, by
    have : j < σ.heap.length := (List.getElem?_eq_some_iff.1 e).1
    simp [AS.pushL, List.getElem?_append_left this, e], .inl fun _ k => k.mono (by omega)⟩

/-- One of them is laid. -/
def Gh.real (G : Gh) (id b : Nat) : Gh :=
  { G with blk := fun i => if i = id then b else G.blk i, ver := fun i => if i = id then 0 else G.ver i, pz := fun i => if i = id then none else G.pz i }

theorem Gh.sub_real {G : Gh} {id b : Nat} {o : AObj} (hz : G.pz id = some o) : G.sub (G.real id b) := by
  have hne : ∀ i, G.on i → i ≠ id := fun i hi e => by rw [e] at hi; rw [hi.2] at hz; cases hz
  exact { frz := fun _ _ _ h => h, n := Nat.le_refl _, on := fun i hi => ⟨hi.1, by simp only [Gh.real]; rw [if_neg (hne i hi)]; exact hi.2⟩,
          ver := fun i hi => by simp only [Gh.real]; rw [if_neg (hne i hi)]; exact Nat.le_refl _, same := fun i hi _ => by simp [Gh.real, hne i hi] }

theorem Gh.on_real {G : Gh} {id b i : Nat} (h : (G.real id b).on i) : i = id ∨ (i ≠ id ∧ G.on i) := by
  obtain ⟨h1, h2⟩ := h
  simp only [Gh.real] at h1 h2
  by_cases e : i = id
  · exact .inl e
  · rw [if_neg e] at h2; exact .inr ⟨e, h1, h2⟩

theorem alloc_of {rows : Bool} {o : Oper} {z : List AV} {tg : Option TypeId} (h : prepOp P rows o = some (.alloc z tg)) : ∃ t, o.op = .alloc t ∧ zcells P t = some z ∧ tg = tagZ z t := by
  cases hop : o.op with
  | alloc t =>
    simp only [prepOp, hop] at h
    obtain ⟨z', h1, h2⟩ := Option.map_eq_some_iff.1 h
    cases h2
    exact ⟨t, rfl, h1, rfl⟩
  | call c =>
    exfalso
    simp only [prepOp, hop, prepCall] at h
    repeat' split at h
    all_goals first | (cases h; done) | (simp only [Option.map_eq_some_iff] at h; obtain ⟨_, _, h⟩ := h; cases h; done) | skip
  | _ =>
    exfalso
    simp only [prepOp, hop] at h
    (repeat' split at h) <;> first | (cases h; done) | (simp only [Option.map_eq_some_iff] at h; obtain ⟨_, _, h⟩ := h; first | (cases h; done) | (split at h <;> cases h)) | (simp_all; done)

theorem WRel.real {G : Gh} {σ : AS} {w : World} (h : WRel P B w₀ G σ w) {id : Nat} {z : List AV} {t : TypeId} (hid : id < G.n) (hz : G.pz id = some (.box z (tagZ z t))) (hc : zcells P t = some z) :
    ∃ w', (Instr.alloc t true (.tuple #[])).run P w = .ok (.pointer (some ⟨w.heap.size, 0, none⟩)) w' ∧ WRel P B w₀ (G.real id w.heap.size) σ w' ∧ VRel (G.real id w.heap.size) (.ptr id 0) (.pointer (some ⟨w.heap.size, 0, none⟩)) := by
  have hsub : G.sub (G.real id w.heap.size) := Gh.sub_real hz
  obtain ⟨z', e, _, l, lf, _⟩ := zcells_rel hc (G.real id w.heap.size) w
  obtain ⟨q1, _⟩ := h.pob id _ hid hz
  have hb : (G.real id w.heap.size).blk id = w.heap.size := by simp [Gh.real]
  refine ⟨w.alloc (.cells z'.cells t), by simp [Instr.alloc, e, newVar, newRow], ?_, ⟨⟨hid, by simp [Gh.real]⟩, _, rfl, fun _ => by rw [hb]⟩⟩
  refine { len := h.len, frz := fun b o v hv => ?_, obj := fun i o ei hzi => ?_, inj := fun i j hi hj hij => ?_, sep := fun i hi o => ?_, low := fun i hi => ?_, bel := h.bel.alloc h.hB _, hB := by have := h.hB; simp; omega, pob := fun i o hi hzi => ?_, old := h.old }
  · have hv' : G.frz b o = some v := hv
    rw [cell?_alloc_old (h.frzLt P hv')]
    exact h.frz b o v hv'
  · by_cases hii : i = id
    · subst hii
      rw [q1] at ei
      cases ei
      refine ⟨by simp [Gh.real], z'.cells, t, ?_, l, lf, fun t' h => tagZ_eq h⟩
      rw [hb]; exact heap_alloc_new _ _
    · have hlt : i < G.n := by rw [h.len]; exact (List.getElem?_eq_some_iff.1 ei).1
      simp only [Gh.real] at hzi
      rw [if_neg hii] at hzi
      exact ORel.monoS hsub ⟨hlt, hzi⟩ (by simp [Gh.real, hii]) (Below.heap_alloc _ _ _ (h.low i ⟨hlt, hzi⟩).2) (h.obj i o ei hzi)
  · rcases Gh.on_real hi with h1 | ⟨n1, h1⟩ <;> rcases Gh.on_real hj with h2 | ⟨n2, h2⟩
    · rw [h1, h2]
    · simp only [Gh.real, h1, if_true, if_neg n2] at hij
      have := (h.low j h2).2; omega
    · simp only [Gh.real, h2, if_true, if_neg n1] at hij
      have := (h.low i h1).2; omega
    · simp only [Gh.real, if_neg n1, if_neg n2] at hij
      exact h.inj i j h1 h2 hij
  · rcases Gh.on_real hi with h1 | ⟨n1, h1⟩
    · subst h1
      rw [hb]
      show G.frz w.heap.size o = none
      cases hf : G.frz w.heap.size o with
      | none => rfl
      | some v => have := h.frzLt P hf; omega
    · simp only [Gh.real, if_neg n1]; exact h.sep i h1 o
  · rcases Gh.on_real hi with h1 | ⟨n1, h1⟩
    · subst h1
      rw [hb]; exact ⟨h.hB, by simp⟩
    · simp only [Gh.real, if_neg n1]
      have := h.low i h1
      exact ⟨this.1, by simp; omega⟩
  · simp only [Gh.real] at hi hzi
    by_cases hii : i = id
    · rw [if_pos hii] at hzi; cases hzi
    · rw [if_neg hii] at hzi; exact h.pob i o hi hzi

theorem Gh.le_real {G₀ G : Gh} (h : G₀.le G) {id b : Nat} {o : AObj} (hz : G.pz id = some o) (hid : G₀.n ≤ id) : G₀.le (G.real id b) :=
  { Gh.sub_trans h.toSub (Gh.sub_real hz) with pz := fun i hi => by simp only [Gh.real]; rw [if_neg (by omega)]; exact h.pz i hi }

section
variable {C : Caller} (hC : CallOk P B w₀ C) (hg : GlobOk X B w₀) {r : Option Nat} {n nt : Nat} {rows : Bool} {ops : Array Oper} {xs : Nat → Ins} {F : Nat → FP}
include hC hg

theorem go_sound (md : Region.Mode) {ord : List Nat} (hord : ordOk md ops ord = true) (sl : Nat → Nat) (al : Nat → Option AObj) (hprep : ∀ i o, ops[i]? = some o → (al i = none ∧ prepOper P rows ops o = some (xs i)) ∨ ∃ z tg g d, al i = some (.box z tg) ∧ prepOper P rows ops o = some ⟨g, d, .alloc z tg⟩ ∧ xs i = ⟨g, d, .mov (.c (.ptr (sl i) 0))⟩)
    (hinj : ∀ i j bi bj, al i = some bi → al j = some bj → sl i = sl j → i = j) {G₀ : Gh} {σ₀ : AS} (hsl : ∀ i b, al i = some b → G₀.n ≤ sl i) (hd : ∀ i, i < ops.size → ∀ d, (xs i).dst = some d → d < nt) (hedge : ∀ i o, ops[i]? = some o → ∀ a ∈ edges o, a < i)
    (hswap : ∀ i j, i < j → j < ops.size → i ∉ anc ops 64 j → apartI (xs i) (xs j) = true ∧ (F i).ok (F j) = true) :
    ∀ (fuel t : Nat) (listed : Array Bool) (l : List Nat) (G : Gh) (σ σ' : AS) (w : World) (fr fr' : Fr) (a : Act) (Q : Exit → Act → World → Prop),
      (∀ i, i ∈ l ↔ i < ops.size ∧ listed.getD i true = false) → listed.size = ops.size → l.Pairwise (· < ·) → (∀ j o, ops[j]? = some o → listed.getD j true = true → ∀ a ∈ edges o, listed.getD a true = true) → l.length ≤ fuel →
      RunP X C xs F l fr σ fr' σ' → G₀.le G → σ₀.Ext σ → (∀ i ∈ l, ∀ b, al i = some b → sl i < G.n ∧ G.pz (sl i) = some b) → WRel P B w₀ G σ w → ERel G nt fr.env a.tmps → DRel ds₀ G fr.marks a.defers → (∀ e a w, ResOk P B w₀ ds₀ G₀ σ₀ nt (.normal, fr', σ') e a w → Q e a w) →
      wpOpsIn (W r) n P ops Q (Region.linearise.go md ops fuel t listed []) a w := by
  intro fuel
  induction fuel with
  | zero =>
    intro t listed l G σ σ' w fr fr' a Q hl hsz hp hcl hf hr hle hext hph hw he hm hQ
    have : l = [] := List.length_eq_zero_iff.1 (by omega)
    subst this
    obtain ⟨rfl, rfl⟩ := hr
    exact hQ _ _ _ ⟨G, hle, hw, he, hm, hext, trivial⟩
  | succ fuel ih =>
    intro t listed l G σ σ' w fr fr' a Q hl hsz hp hcl hf hr hle hext hph hw he hm hQ
    simp only [Region.linearise.go]
    change wpOpsIn (W r) n P ops Q (match (Region.ready md ops listed)[t % (Region.ready md ops listed).length]? with
      | some i => Region.linearise.go md ops fuel (t / (Region.ready md ops listed).length) (listed.setIfInBounds i true) [i]
      | none => [].reverse) a w
    have hready : ∀ i, i ∈ Region.ready md ops listed ↔ i ∈ l ∧ ∀ o, ops[i]? = some o → ∀ e ∈ o.after.toList, Region.binds md e = true → listed.getD e.on false = true := by
      intro i
      simp only [Region.ready, List.mem_filter, List.mem_range, Bool.and_eq_true, Bool.not_eq_true']
      rw [hl]
      constructor
      · rintro ⟨h1, h2, h3⟩
        refine ⟨⟨h1, h2⟩, fun o ho e he' hb => ?_⟩
        rw [ho] at h3
        simp only [Option.map_some, Option.getD_some, Array.all_eq_true_iff_forall_mem] at h3
        have := h3 e (by simpa using he')
        rw [hb] at this
        simpa using this
      · rintro ⟨⟨h1, h2⟩, h3⟩
        refine ⟨h1, h2, ?_⟩
        obtain ⟨o, ho⟩ : ∃ o, ops[i]? = some o := ⟨ops[i], by simp [h1]⟩
        rw [ho]
        simp only [Option.map_some, Option.getD_some, Array.all_eq_true_iff_forall_mem]
        intro e he'
        by_cases hb : Region.binds md e = true
        · rw [h3 o ho e (by simpa using he') hb]; simp
        · simp at hb; simp [hb]
    have getD_tf : ∀ a, listed.getD a false = true → listed.getD a true = true := by
      intro a h
      simp only [Array.getD_eq_getD_getElem?] at h ⊢
      cases h' : listed[a]? with
      | none => rw [h'] at h; cases h
      | some b => rw [h'] at h; exact h
    cases hi : (Region.ready md ops listed)[t % (Region.ready md ops listed).length]? with
    | none =>
      have hnil : Region.ready md ops listed = [] := by
        cases hrd : Region.ready md ops listed with
        | nil => rfl
        | cons x ys =>
          rw [hrd] at hi
          have hlt : t % (x :: ys).length < (x :: ys).length := Nat.mod_lt _ (by simp)
          rw [List.getElem?_eq_getElem hlt] at hi
          cases hi
      cases l with
      | nil =>
        obtain ⟨rfl, rfl⟩ := hr
        exact hQ _ _ _ ⟨G, hle, hw, he, hm, hext, trivial⟩
      | cons i l =>
        exfalso
        simp only [ordOk, Bool.and_eq_true] at hord
        obtain ⟨x, hx, o, ho, hall⟩ := ord_ready (S := fun a => listed.getD a false = true) (l := i :: l) (fun x hx hxl => by
          cases hla : listed.getD x true with
          | true =>
            simp only [Array.getD_eq_getD_getElem?, Array.getElem?_eq_getElem (show x < listed.size by omega), Option.getD_some] at hla ⊢
            exact hla
          | false => exact absurd ((hl x).2 ⟨hx, hla⟩) hxl) ord [] hord.2 (by simp) ⟨i, by
            have := List.all_eq_true.1 hord.1 i (by simpa using ((hl i).1 (by simp)).1)
            simpa using this, by simp⟩
        have : x ∈ Region.ready md ops listed := (hready x).2 ⟨hx, fun o' ho' e he' hb => by rw [ho] at ho'; cases ho'; exact hall e he' hb⟩
        rw [hnil] at this
        cases this
    | some i =>
      simp only
      rw [linearise_go_acc, List.reverse_singleton, List.singleton_append]
      have hir := List.mem_of_getElem? hi
      obtain ⟨hil, hie'⟩ := (hready i).1 hir
      have hie : ∀ o, ops[i]? = some o → ∀ a ∈ edges o, listed.getD a true = true := by
        intro o ho a ha
        simp only [edges, List.mem_map, List.mem_filter] at ha
        obtain ⟨e, ⟨e1, e2⟩, rfl⟩ := ha
        exact getD_tf _ (hie' o ho e e1 (binds_any e2))
      have hin := ((hl i).1 hil).1
      obtain ⟨o, ho⟩ : ∃ o, ops[i]? = some o := ⟨ops[i], by simp [hin]⟩
      obtain ⟨l₁, l₂, rfl⟩ := List.append_of_mem hil
      have hpw := List.pairwise_append.1 hp
      have hfront := runP_front l₁ fr fr' σ σ' (fun x hx => by
        have hxl := (hl x).1 (by simp [hx])
        refine hswap x i (hpw.2.2 x hx i (by simp)) hin (fun hanc => ?_)
        have := anc_listed (S := fun a => listed.getD a true = true) (fun j hj o' ho' a ha => hcl j o' ho' hj a ha) 64 i o ho (hie o ho) x hanc
        rw [hxl.2] at this; cases this) hr
      rw [RunP] at hfront
      -- what remains
      have hmem : ∀ k, k ∈ l₁ ++ l₂ ↔ k < ops.size ∧ (listed.setIfInBounds i true).getD k true = false := by
        intro k
        have hk := hl k
        have hni : ∀ x ∈ l₁ ++ l₂, x ≠ i := by
          intro x hx e
          subst e
          rcases List.mem_append.1 hx with h | h
          · have := hpw.2.2 x h x (by simp); omega
          · have := (List.pairwise_cons.1 hpw.2.1).1 x h; omega
        simp only [Array.getD_eq_getD_getElem?, Array.getElem?_setIfInBounds] at hk ⊢
        constructor
        · intro h
          have hne := hni k h
          have := hk.1 (by simp only [List.mem_append, List.mem_cons] at h ⊢; rcases h with h | h; exact .inl h; exact .inr (.inr h))
          rw [if_neg (fun e => hne e.symm)]
          exact this
        · rintro ⟨h1, h2⟩
          by_cases hik : i = k
          · subst hik
            rw [if_pos rfl, if_pos (by omega)] at h2
            simp at h2
          · rw [if_neg hik] at h2
            have := hk.2 ⟨h1, h2⟩
            simp only [List.mem_append, List.mem_cons] at this ⊢
            rcases this with h | h | h
            · exact .inl h
            · exact absurd h.symm hik
            · exact .inr h
      have hp' : (l₁ ++ l₂).Pairwise (· < ·) := List.pairwise_append.2 ⟨hpw.1, (List.pairwise_cons.1 hpw.2.1).2, fun x hx y hy => hpw.2.2 x hx y (by simp [hy])⟩
      have hcl' : ∀ j o, ops[j]? = some o → (listed.setIfInBounds i true).getD j true = true → ∀ a ∈ edges o, (listed.setIfInBounds i true).getD a true = true := by
        intro j o' ho' hj a ha
        have key : listed.getD a true = true → (listed.setIfInBounds i true).getD a true = true := by
          intro h
          simp only [Array.getD_eq_getD_getElem?, Array.getElem?_setIfInBounds] at h ⊢
          split
          · split <;> rfl
          · exact h
        apply key
        by_cases hji : i = j
        · subst hji
          rw [ho] at ho'; cases ho'
          exact hie _ ho a ha
        · refine hcl j o' ho' ?_ a ha
          simp only [Array.getD_eq_getD_getElem?, Array.getElem?_setIfInBounds] at hj ⊢
          rw [if_neg hji] at hj
          exact hj
      have hf' : (l₁ ++ l₂).length ≤ fuel := by simp at hf ⊢; omega
      have hnotin : i ∉ l₁ ++ l₂ := fun hm => by
        rcases List.mem_append.1 hm with h | h
        · have := hpw.2.2 i h i (by simp); omega
        · have := (List.pairwise_cons.1 hpw.2.1).1 i h; omega
      have hph' : ∀ k ∈ l₁ ++ l₂, ∀ b, al k = some b → sl k < G.n ∧ G.pz (sl k) = some b := fun k hk b hb => hph k (by
        simp only [List.mem_append, List.mem_cons] at hk ⊢
        rcases hk with h | h
        · exact .inl h
        · exact .inr (.inr h)) b hb
      rcases hprep i o ho with ⟨hal, hx⟩ | ⟨z, tg, g, d, hal, hx, hxi⟩
      · have hgd : guardOf ops o = some (xs i).g := by
          unfold prepOper at hx
          split at hx
          · rename_i h2; have := Option.some.inj hx; rw [← this]; exact h2
          · cases hx
        have hdst : (xs i).dst = o.dst := by
          unfold prepOper at hx
          split at hx
          · have := Option.some.inj hx; rw [← this]
          · cases hx
        have hwt := wanted_rel he hgd
        simp only [wpOpsIn, ho]
        rw [hwt]
        rcases hfront with ⟨h1, v, σ₁, h2, _, h4⟩ | ⟨h1, _, h4⟩
        · rw [if_pos h1]
          refine op_sound hC hg hx (hd i hin) hw he hm h2 (fun v₁ σ₂ e G' a' w' q1 q2 q3 q4 q5 => ?_) (fun v₁ σ₂ e => by cases e)
          cases e
          exact ih _ _ (l₁ ++ l₂) G' σ₁ σ' w' _ fr' a' Q hmem (by simpa using hsz) hp' hcl' hf' h4 (Gh.le_trans hle q1) (hext.trans q3) (fun k hk b hb => by
            obtain ⟨p1, p2⟩ := hph' k hk b hb
            exact ⟨Nat.lt_of_lt_of_le p1 q1.n, by rw [q1.pz _ p1]; exact p2⟩) q2 q4 q5 hQ
        · rw [if_neg (by rw [h1]; simp)]
          refine ⟨fun _ _ => trivial, ?_⟩
          obtain ⟨p1, p2, p3⟩ := put_rel' (a := a) he (hd i hin) (v := .undef) (v' := undef) undef_rel
          rw [← hdst]
          exact ih _ _ (l₁ ++ l₂) G σ σ' w _ fr' _ Q hmem (by simpa using hsz) hp' hcl' hf' h4 hle hext hph' hw p1 (by rw [p2, p3]; exact hm) hQ
      · rw [hxi] at hfront
        have hdd : ∀ d', d = some d' → d' < nt := fun d' hd' => hd i hin d' (by rw [hxi]; exact hd')
        have hx' : prepOp P rows o = some (.alloc z tg) ∧ guardOf ops o = some g ∧ o.dst = d := by
          unfold prepOper at hx
          split at hx
          · rename_i i' g' h2 h3
            simp only [Option.some.injEq, Ins.mk.injEq] at hx
            obtain ⟨rfl, rfl, rfl⟩ := hx
            exact ⟨h2, h3, rfl⟩
          · cases hx
        obtain ⟨hpo, hgd, hdst⟩ := hx'
        have hwt := wanted_rel he hgd
        simp only [wpOpsIn, ho]
        rw [hwt]
        rcases hfront with ⟨h1, v, σ₁, h2, _, h4⟩ | ⟨h1, _, h4⟩
        · rw [if_pos h1]
          simp only [exec, Opd.get, Option.some.injEq, Out.ok.injEq] at h2
          obtain ⟨rfl, rfl⟩ := h2
          obtain ⟨p1, p2⟩ := hph i (by simp) _ hal
          obtain ⟨t, hop, hzc, rfl⟩ : ∃ t, o.op = .alloc t ∧ zcells P t = some z ∧ tg = tagZ z t := alloc_of hpo
          obtain ⟨w', e1, e2, e3⟩ := hw.real p1 p2 hzc
          refine ⟨fun _ _ => trivial, ?_⟩
          have hsem : o.semAt (W r).round a.eval = execOp a.eval o := by
            apply Oper.semAt_eq
            intro c e
            rw [hop] at e; cases e
          have hrun : (execOp a.eval o).run P w = .ok (.value (.pointer (some ⟨w.heap.size, 0, none⟩))) w' := by
            unfold execOp
            simp only [hop]
            rw [Sem.run_bind, e1]
            rfl
          rw [hsem, hrun]
          simp only [Oper.uponIn]
          have hsub := Gh.sub_real (b := w.heap.size) p2
          obtain ⟨r1, r2, r3⟩ := put_rel' (a := a) (dst := d) (he.monoS hsub) hdd e3
          rw [hdst]
          exact ih _ _ (l₁ ++ l₂) _ σ σ' w' _ fr' _ Q hmem (by simpa using hsz) hp' hcl' hf' h4 (Gh.le_real hle p2 (hsl i _ hal)) hext (fun k hk b hb => by
            obtain ⟨p3, p4⟩ := hph' k hk b hb
            refine ⟨p3, ?_⟩
            have hne : sl k ≠ sl i := fun e => hnotin (by rw [hinj i k _ _ hal hb e.symm]; exact hk)
            simp only [Gh.real]; rw [if_neg hne]; exact p4) e2 r1 (by rw [r2, r3]; exact hm.monoS hsub) hQ
        · rw [if_neg (by rw [h1]; simp)]
          refine ⟨fun _ _ => trivial, ?_⟩
          obtain ⟨p1, p2, p3⟩ := put_rel' (a := a) (dst := d) he hdd (v := .undef) (v' := undef) undef_rel
          rw [hdst]
          exact ih _ _ (l₁ ++ l₂) G σ σ' w _ fr' _ Q hmem (by simpa using hsz) hp' hcl' hf' h4 hle hext hph' hw p1 (by rw [p2, p3]; exact hm) hQ

theorem go_panic (md : Region.Mode) {ord : List Nat} (hord : ordOk md ops ord = true) (sl : Nat → Nat) (al : Nat → Option AObj) (hprep : ∀ i o, ops[i]? = some o → (al i = none ∧ prepOper P rows ops o = some (xs i)) ∨ ∃ z tg g d, al i = some (.box z tg) ∧ prepOper P rows ops o = some ⟨g, d, .alloc z tg⟩ ∧ xs i = ⟨g, d, .mov (.c (.ptr (sl i) 0))⟩)
    (hinj : ∀ i j bi bj, al i = some bi → al j = some bj → sl i = sl j → i = j) {G₀ : Gh} {σ₀ : AS} (hsl : ∀ i b, al i = some b → G₀.n ≤ sl i) (hd : ∀ i, i < ops.size → ∀ d, (xs i).dst = some d → d < nt) (hedge : ∀ i o, ops[i]? = some o → ∀ a ∈ edges o, a < i)
    {p₀ : Nat} (hpp : p₀ < ops.size) (hswap : ∀ i j, i < j → j < p₀ → i ∉ anc ops 64 j → apartI (xs i) (xs j) = true ∧ (F i).ok (F j) = true) (hbef : ∀ i, i < p₀ → i ∈ anc ops 64 p₀) (haft : ∀ j, p₀ < j → j < ops.size → p₀ ∈ anc ops 64 j) {v₀ : AV} {σE : AS} :
    ∀ (fuel t : Nat) (listed : Array Bool) (l : List Nat) (G : Gh) (σ σ' : AS) (w : World) (fr fr' : Fr) (a : Act) (Q : Exit → Act → World → Prop),
      (∀ i, i ∈ l ↔ i < p₀ ∧ listed.getD i true = false) → listed.size = ops.size → (∀ j, p₀ ≤ j → j < ops.size → listed.getD j true = false) → l.Pairwise (· < ·) → (∀ j o, ops[j]? = some o → listed.getD j true = true → ∀ a ∈ edges o, listed.getD a true = true) → l.length < fuel →
      RunP X C xs F l fr σ fr' σ' → wantedA fr'.env (xs p₀).g = true → exec X C (xs p₀).i fr'.env σ' = some (.panic v₀ σE) → G₀.le G → σ₀.Ext σ → (∀ i ∈ l, ∀ b, al i = some b → sl i < G.n ∧ G.pz (sl i) = some b) → WRel P B w₀ G σ w → ERel G nt fr.env a.tmps → DRel ds₀ G fr.marks a.defers → (∀ e a w, ResOk P B w₀ ds₀ G₀ σ₀ nt (.panic v₀, fr', σE) e a w → Q e a w) →
      wpOpsIn (W r) n P ops Q (Region.linearise.go md ops fuel t listed []) a w := by
  intro fuel
  induction fuel with
  | zero =>
    intro t listed l G σ σ' w fr fr' a Q hl hsz hge hp hcl hf hr hw0 hx0 hle hext hph hw he hm hQ
    exact absurd hf (Nat.not_lt_zero _)
  | succ fuel ih =>
    intro t listed l G σ σ' w fr fr' a Q hl hsz hge hp hcl hf hr hw0 hx0 hle hext hph hw he hm hQ
    simp only [Region.linearise.go]
    change wpOpsIn (W r) n P ops Q (match (Region.ready md ops listed)[t % (Region.ready md ops listed).length]? with
      | some i => Region.linearise.go md ops fuel (t / (Region.ready md ops listed).length) (listed.setIfInBounds i true) [i]
      | none => [].reverse) a w
    have hready : ∀ i, i ∈ Region.ready md ops listed ↔ (i < ops.size ∧ listed.getD i true = false) ∧ ∀ o, ops[i]? = some o → ∀ e ∈ o.after.toList, Region.binds md e = true → listed.getD e.on false = true := by
      intro i
      simp only [Region.ready, List.mem_filter, List.mem_range, Bool.and_eq_true, Bool.not_eq_true']
      constructor
      · rintro ⟨h1, h2, h3⟩
        refine ⟨⟨h1, h2⟩, fun o ho e he' hb => ?_⟩
        rw [ho] at h3
        simp only [Option.map_some, Option.getD_some, Array.all_eq_true_iff_forall_mem] at h3
        have := h3 e (by simpa using he')
        rw [hb] at this
        simpa using this
      · rintro ⟨⟨h1, h2⟩, h3⟩
        refine ⟨h1, h2, ?_⟩
        obtain ⟨o, ho⟩ : ∃ o, ops[i]? = some o := ⟨ops[i], by simp [h1]⟩
        rw [ho]
        simp only [Option.map_some, Option.getD_some, Array.all_eq_true_iff_forall_mem]
        intro e he'
        by_cases hb : Region.binds md e = true
        · rw [h3 o ho e (by simpa using he') hb]; simp
        · simp at hb; simp [hb]
    have getD_tf : ∀ a, listed.getD a false = true → listed.getD a true = true := by
      intro a h
      simp only [Array.getD_eq_getD_getElem?] at h ⊢
      cases h' : listed[a]? with
      | none => rw [h'] at h; cases h
      | some b => rw [h'] at h; exact h
    cases hi : (Region.ready md ops listed)[t % (Region.ready md ops listed).length]? with
    | none =>
      have hnil : Region.ready md ops listed = [] := by
        cases hrd : Region.ready md ops listed with
        | nil => rfl
        | cons x ys =>
          rw [hrd] at hi
          have hlt : t % (x :: ys).length < (x :: ys).length := Nat.mod_lt _ (by simp)
          rw [List.getElem?_eq_getElem hlt] at hi
          cases hi
      exfalso
      simp only [ordOk, Bool.and_eq_true] at hord
      obtain ⟨x, hx, o, ho, hall⟩ := ord_ready (S := fun a => listed.getD a false = true) (l := (List.range ops.size).filter fun i => listed.getD i true == false) (fun x hx hxl => by
        cases hla : listed.getD x true with
        | true =>
          simp only [Array.getD_eq_getD_getElem?, Array.getElem?_eq_getElem (show x < listed.size by omega), Option.getD_some] at hla ⊢
          exact hla
        | false => exact absurd (List.mem_filter.2 ⟨List.mem_range.2 hx, by simpa using hla⟩) hxl) ord [] hord.2 (by simp) ⟨p₀, by
          have := List.all_eq_true.1 hord.1 p₀ (by simpa using hpp)
          simpa using this, List.mem_filter.2 ⟨List.mem_range.2 hpp, by simpa using hge p₀ (Nat.le_refl _) hpp⟩⟩
      have hx' : x < ops.size ∧ listed.getD x true = false := by simpa using List.mem_filter.1 hx
      have : x ∈ Region.ready md ops listed := (hready x).2 ⟨hx', fun o' ho' e he' hb => by rw [ho] at ho'; cases ho'; exact hall e he' hb⟩
      rw [hnil] at this
      cases this
    | some i =>
      simp only
      rw [linearise_go_acc, List.reverse_singleton, List.singleton_append]
      have hir := List.mem_of_getElem? hi
      obtain ⟨hil, hie'⟩ := (hready i).1 hir
      have hie : ∀ o, ops[i]? = some o → ∀ a ∈ edges o, listed.getD a true = true := by
        intro o ho a ha
        simp only [edges, List.mem_map, List.mem_filter] at ha
        obtain ⟨e, ⟨e1, e2⟩, rfl⟩ := ha
        exact getD_tf _ (hie' o ho e e1 (binds_any e2))
      have hin := hil.1
      obtain ⟨o, ho⟩ : ∃ o, ops[i]? = some o := ⟨ops[i], by simp [hin]⟩
      have hanc : ∀ x ∈ anc ops 64 i, listed.getD x true = true := anc_listed (S := fun a => listed.getD a true = true) (fun j hj o' ho' a ha => hcl j o' ho' hj a ha) 64 i o ho (hie o ho)
      by_cases hip : ¬ i < p₀
      · have hip' : i = p₀ := by
          refine Classical.byContradiction fun hne => ?_
          have := hanc _ (haft i (by omega) hin)
          rw [hge p₀ (Nat.le_refl _) hpp] at this; cases this
        subst hip'
        have hnil : l = [] := by
          cases l with
          | nil => rfl
          | cons x l =>
            obtain ⟨q1, q2⟩ := (hl x).1 (by simp)
            have := hanc _ (hbef x q1)
            rw [q2] at this; cases this
        subst hnil
        obtain ⟨rfl, rfl⟩ := hr
        rcases hprep i o ho with ⟨hal, hx⟩ | ⟨z, tg, g, d, hal, hx, hxi⟩
        · have hgd : guardOf ops o = some (xs i).g := by
            unfold prepOper at hx
            split at hx
            · rename_i h2; have := Option.some.inj hx; rw [← this]; exact h2
            · cases hx
          have hwt := wanted_rel he hgd
          simp only [wpOpsIn, ho]
          rw [hwt, if_pos hw0]
          exact op_sound hC hg hx (hd i hin) hw he hm hx0 (fun v₁ σ₂ e => by cases e) (fun v₁ σ₂ e e' a' w' h => by cases e; exact hQ _ _ _ (h.trans hle hext))
        · rw [hxi] at hx0
          simp [exec] at hx0
      have hip : i < p₀ := Decidable.byContradiction hip
      have hil : i ∈ l := (hl i).2 ⟨hip, hil.2⟩
      obtain ⟨l₁, l₂, rfl⟩ := List.append_of_mem hil
      have hpw := List.pairwise_append.1 hp
      have hfront := runP_front l₁ fr fr' σ σ' (fun x hx => by
        have hxl := (hl x).1 (by simp [hx])
        refine hswap x i (hpw.2.2 x hx i (by simp)) hip (fun hanc => ?_)
        have := anc_listed (S := fun a => listed.getD a true = true) (fun j hj o' ho' a ha => hcl j o' ho' hj a ha) 64 i o ho (hie o ho) x hanc
        rw [hxl.2] at this; cases this) hr
      rw [RunP] at hfront
      -- what remains
      have hmem : ∀ k, k ∈ l₁ ++ l₂ ↔ k < p₀ ∧ (listed.setIfInBounds i true).getD k true = false := by
        intro k
        have hk := hl k
        have hni : ∀ x ∈ l₁ ++ l₂, x ≠ i := by
          intro x hx e
          subst e
          rcases List.mem_append.1 hx with h | h
          · have := hpw.2.2 x h x (by simp); omega
          · have := (List.pairwise_cons.1 hpw.2.1).1 x h; omega
        simp only [Array.getD_eq_getD_getElem?, Array.getElem?_setIfInBounds] at hk ⊢
        constructor
        · intro h
          have hne := hni k h
          have := hk.1 (by simp only [List.mem_append, List.mem_cons] at h ⊢; rcases h with h | h; exact .inl h; exact .inr (.inr h))
          rw [if_neg (fun e => hne e.symm)]
          exact this
        · rintro ⟨h1, h2⟩
          by_cases hik : i = k
          · subst hik
            rw [if_pos rfl, if_pos (by omega)] at h2
            simp at h2
          · rw [if_neg hik] at h2
            have := hk.2 ⟨h1, h2⟩
            simp only [List.mem_append, List.mem_cons] at this ⊢
            rcases this with h | h | h
            · exact .inl h
            · exact absurd h.symm hik
            · exact .inr h
      have hp' : (l₁ ++ l₂).Pairwise (· < ·) := List.pairwise_append.2 ⟨hpw.1, (List.pairwise_cons.1 hpw.2.1).2, fun x hx y hy => hpw.2.2 x hx y (by simp [hy])⟩
      have hcl' : ∀ j o, ops[j]? = some o → (listed.setIfInBounds i true).getD j true = true → ∀ a ∈ edges o, (listed.setIfInBounds i true).getD a true = true := by
        intro j o' ho' hj a ha
        have key : listed.getD a true = true → (listed.setIfInBounds i true).getD a true = true := by
          intro h
          simp only [Array.getD_eq_getD_getElem?, Array.getElem?_setIfInBounds] at h ⊢
          split
          · split <;> rfl
          · exact h
        apply key
        by_cases hji : i = j
        · subst hji
          rw [ho] at ho'; cases ho'
          exact hie _ ho a ha
        · refine hcl j o' ho' ?_ a ha
          simp only [Array.getD_eq_getD_getElem?, Array.getElem?_setIfInBounds] at hj ⊢
          rw [if_neg hji] at hj
          exact hj
      have hf' : (l₁ ++ l₂).length < fuel := by simp at hf ⊢; omega
      have hge' : ∀ j, p₀ ≤ j → j < ops.size → (listed.setIfInBounds i true).getD j true = false := by
        intro j h1 h2
        have := hge j h1 h2
        simp only [Array.getD_eq_getD_getElem?, Array.getElem?_setIfInBounds] at this ⊢
        rw [if_neg (by omega)]; exact this
      have hnotin : i ∉ l₁ ++ l₂ := fun hm => by
        rcases List.mem_append.1 hm with h | h
        · have := hpw.2.2 i h i (by simp); omega
        · have := (List.pairwise_cons.1 hpw.2.1).1 i h; omega
      have hph' : ∀ k ∈ l₁ ++ l₂, ∀ b, al k = some b → sl k < G.n ∧ G.pz (sl k) = some b := fun k hk b hb => hph k (by
        simp only [List.mem_append, List.mem_cons] at hk ⊢
        rcases hk with h | h
        · exact .inl h
        · exact .inr (.inr h)) b hb
      rcases hprep i o ho with ⟨hal, hx⟩ | ⟨z, tg, g, d, hal, hx, hxi⟩
      · have hgd : guardOf ops o = some (xs i).g := by
          unfold prepOper at hx
          split at hx
          · rename_i h2; have := Option.some.inj hx; rw [← this]; exact h2
          · cases hx
        have hdst : (xs i).dst = o.dst := by
          unfold prepOper at hx
          split at hx
          · have := Option.some.inj hx; rw [← this]
          · cases hx
        have hwt := wanted_rel he hgd
        simp only [wpOpsIn, ho]
        rw [hwt]
        rcases hfront with ⟨h1, v, σ₁, h2, _, h4⟩ | ⟨h1, _, h4⟩
        · rw [if_pos h1]
          refine op_sound hC hg hx (hd i hin) hw he hm h2 (fun v₁ σ₂ e G' a' w' q1 q2 q3 q4 q5 => ?_) (fun v₁ σ₂ e => by cases e)
          cases e
          exact ih _ _ (l₁ ++ l₂) G' σ₁ σ' w' _ fr' a' Q hmem (by simpa using hsz) hge' hp' hcl' hf' h4 hw0 hx0 (Gh.le_trans hle q1) (hext.trans q3) (fun k hk b hb => by
            obtain ⟨p1, p2⟩ := hph' k hk b hb
            exact ⟨Nat.lt_of_lt_of_le p1 q1.n, by rw [q1.pz _ p1]; exact p2⟩) q2 q4 q5 hQ
        · rw [if_neg (by rw [h1]; simp)]
          refine ⟨fun _ _ => trivial, ?_⟩
          obtain ⟨p1, p2, p3⟩ := put_rel' (a := a) he (hd i hin) (v := .undef) (v' := undef) undef_rel
          rw [← hdst]
          exact ih _ _ (l₁ ++ l₂) G σ σ' w _ fr' _ Q hmem (by simpa using hsz) hge' hp' hcl' hf' h4 hw0 hx0 hle hext hph' hw p1 (by rw [p2, p3]; exact hm) hQ
      · rw [hxi] at hfront
        have hdd : ∀ d', d = some d' → d' < nt := fun d' hd' => hd i hin d' (by rw [hxi]; exact hd')
        have hx' : prepOp P rows o = some (.alloc z tg) ∧ guardOf ops o = some g ∧ o.dst = d := by
          unfold prepOper at hx
          split at hx
          · rename_i i' g' h2 h3
            simp only [Option.some.injEq, Ins.mk.injEq] at hx
            obtain ⟨rfl, rfl, rfl⟩ := hx
            exact ⟨h2, h3, rfl⟩
          · cases hx
        obtain ⟨hpo, hgd, hdst⟩ := hx'
        have hwt := wanted_rel he hgd
        simp only [wpOpsIn, ho]
        rw [hwt]
        rcases hfront with ⟨h1, v, σ₁, h2, _, h4⟩ | ⟨h1, _, h4⟩
        · rw [if_pos h1]
          simp only [exec, Opd.get, Option.some.injEq, Out.ok.injEq] at h2
          obtain ⟨rfl, rfl⟩ := h2
          obtain ⟨p1, p2⟩ := hph i (by simp) _ hal
          obtain ⟨t, hop, hzc, rfl⟩ : ∃ t, o.op = .alloc t ∧ zcells P t = some z ∧ tg = tagZ z t := alloc_of hpo
          obtain ⟨w', e1, e2, e3⟩ := hw.real p1 p2 hzc
          refine ⟨fun _ _ => trivial, ?_⟩
          have hsem : o.semAt (W r).round a.eval = execOp a.eval o := by
            apply Oper.semAt_eq
            intro c e
            rw [hop] at e; cases e
          have hrun : (execOp a.eval o).run P w = .ok (.value (.pointer (some ⟨w.heap.size, 0, none⟩))) w' := by
            unfold execOp
            simp only [hop]
            rw [Sem.run_bind, e1]
            rfl
          rw [hsem, hrun]
          simp only [Oper.uponIn]
          have hsub := Gh.sub_real (b := w.heap.size) p2
          obtain ⟨r1, r2, r3⟩ := put_rel' (a := a) (dst := d) (he.monoS hsub) hdd e3
          rw [hdst]
          exact ih _ _ (l₁ ++ l₂) _ σ σ' w' _ fr' _ Q hmem (by simpa using hsz) hge' hp' hcl' hf' h4 hw0 hx0 (Gh.le_real hle p2 (hsl i _ hal)) hext (fun k hk b hb => by
            obtain ⟨p3, p4⟩ := hph' k hk b hb
            refine ⟨p3, ?_⟩
            have hne : sl k ≠ sl i := fun e => hnotin (by rw [hinj i k _ _ hal hb e.symm]; exact hk)
            simp only [Gh.real]; rw [if_neg hne]; exact p4) e2 r1 (by rw [r2, r3]; exact hm.monoS hsub) hQ
        · rw [if_neg (by rw [h1]; simp)]
          refine ⟨fun _ _ => trivial, ?_⟩
          obtain ⟨p1, p2, p3⟩ := put_rel' (a := a) (dst := d) he hdd (v := .undef) (v' := undef) undef_rel
          rw [hdst]
          exact ih _ _ (l₁ ++ l₂) G σ σ' w _ fr' _ Q hmem (by simpa using hsz) hge' hp' hcl' hf' h4 hw0 hx0 hle hext hph' hw p1 (by rw [p2, p3]; exact hm) hQ

end
end Go.Den

/- Den: regions that draw their order are sound; calls, to any depth. -/
namespace Go.Den
open Go Go.RowKit

variable {P : Program} {X : Ctx} {B : Nat} {w₀ : World} {ds₀ : List Deferred}

/-! New variables, ahead of the region. -/

theorem newBox_eq {x : Ins} {b : AObj} (h : x.newBox = some b) : ∃ z tg, x.i = .alloc z tg ∧ b = .box z tg := by
  unfold Ins.newBox at h
  split at h
  · rename_i z tg hi; cases h; exact ⟨z, tg, hi, rfl⟩
  · cases h

theorem slotIns_none {m : Nat} {x : Ins} (h : x.newBox = none) : slotIns m x = x := by unfold slotIns; rw [h]
theorem slotIns_some {m : Nat} {x : Ins} {b : AObj} (h : x.newBox = some b) : slotIns m x = { x with i := .mov (.c (.ptr m 0)) } := by unfold slotIns; rw [h]

theorem slotIns_dst {m : Nat} {x : Ins} : (slotIns m x).dst = x.dst := by
  cases h : x.newBox with
  | none => rw [slotIns_none h]
  | some b => rw [slotIns_some h]

theorem slotIns_reads {m : Nat} {x : Ins} : (slotIns m x).reads = x.reads := by
  cases h : x.newBox with
  | none => rw [slotIns_none h]
  | some b =>
    rw [slotIns_some h]
    obtain ⟨z, tg, hi, _⟩ := newBox_eq h
    unfold Ins.reads
    rw [hi]
    rfl

theorem slotOps_get : ∀ (ys : List (Ins × List Nat)) (n q : Nat), (slotOps n ys)[q]? = (ys[q]?).map fun y => (slotIns (n + (slotZs (ys.take q)).length) y.1, y.2)
  | [], n, q => by simp [slotOps]
  | o :: os, n, 0 => by simp [slotOps, slotZs]
  | o :: os, n, q + 1 => by
    simp only [slotOps, List.getElem?_cons_succ, List.take_succ_cons]
    rw [slotOps_get os]
    cases h : o.1.newBox with
    | none => simp [slotZs, h]
    | some b =>
      simp only [slotZs, h, List.length_cons]
      congr 1
      funext y
      congr 2
      omega

theorem slotOps_length : ∀ (ys : List (Ins × List Nat)) (n : Nat), (slotOps n ys).length = ys.length
  | [], _ => rfl
  | o :: os, n => by simp [slotOps, slotOps_length os]

theorem slotZs_get : ∀ (ys : List (Ins × List Nat)) (q : Nat) (y : Ins × List Nat) (b : AObj), ys[q]? = some y → y.1.newBox = some b → (slotZs ys)[(slotZs (ys.take q)).length]? = some b
  | [], q, y, b, h, _ => by simp at h
  | o :: os, 0, y, b, h, hb => by
    simp at h; subst h
    simp [slotZs, hb]
  | o :: os, q + 1, y, b, h, hb => by
    have ih := slotZs_get os q y b (by simpa using h) hb
    simp only [List.take_succ_cons, slotZs]
    cases ho : o.1.newBox with
    | none => simpa using ih
    | some b' => simpa using ih

theorem slotZs_lt : ∀ (ys : List (Ins × List Nat)) (i j : Nat) (y : Ins × List Nat) (b : AObj), ys[i]? = some y → y.1.newBox = some b → i < j → (slotZs (ys.take i)).length < (slotZs (ys.take j)).length
  | [], i, j, y, b, h, _, _ => by simp at h
  | o :: os, 0, j + 1, y, b, h, hb, _ => by
    simp at h; subst h
    simp [slotZs, hb]
  | o :: os, i + 1, j + 1, y, b, h, hb, hij => by
    have ih := slotZs_lt os i j y b (by simpa using h) hb (by omega)
    simp only [List.take_succ_cons, slotZs]
    cases ho : o.1.newBox with
    | none => exact ih
    | some b' => simpa using ih
  | o :: os, _, 0, y, b, h, hb, hij => by omega

theorem slotZs_mem : ∀ (ys : List (Ins × List Nat)) (b : AObj), b ∈ slotZs ys → ∃ y ∈ ys, y.1.newBox = some b
  | [], b, h => by simp [slotZs] at h
  | o :: os, b, h => by
    simp only [slotZs] at h
    cases ho : o.1.newBox with
    | none =>
      rw [ho] at h
      obtain ⟨y, h1, h2⟩ := slotZs_mem os b h
      exact ⟨y, by simp [h1], h2⟩
    | some b' =>
      rw [ho] at h
      rcases List.mem_cons.1 h with rfl | h
      · exact ⟨o, by simp, ho⟩
      · obtain ⟨y, h1, h2⟩ := slotZs_mem os b h
        exact ⟨y, by simp [h1], h2⟩

theorem drawOk (hg : GlobOk X B w₀) : DrawOk P X B w₀ := by
  intro ds₀ C hC rows r n nt id ops xl ys hprep hd hun G σ w fr a res Q hw he hm hr hQ
  obtain ⟨hlen, hget⟩ := prepOps_get hprep
  have hln : xl.length = ops.size := by rw [hlen]; simp
  unfold untied at hun
  simp only at hun
  split at hun
  · rename_i hcond
    simp only [Bool.and_eq_true, Bool.not_eq_true'] at hcond
    obtain ⟨⟨⟨⟨hoa, hot⟩, hog⟩, hedges⟩, hpairs⟩ := hcond
    simp only [Option.some.injEq] at hun
    let x0 : Nat → Ins := fun i => xl.getD i default
    have hxs : ∀ i, i < xl.length → xl[i]? = some (x0 i) := fun i hi => by
      simp only [x0, List.getD_eq_getElem?_getD, List.getElem?_eq_getElem hi, Option.getD_some]
    have hx0 : ∀ i, ¬ i < xl.length → (x0 i).newBox = none := fun i hi => by
      simp only [x0, List.getD_eq_getElem?_getD, List.getElem?_eq_none (Nat.le_of_not_lt hi), Option.getD_none]; rfl
    let sl : Nat → Nat := fun i => σ.heap.length + (slotZs (ys.take i)).length
    let xs : Nat → Ins := fun i => slotIns (sl i) (x0 i)
    have hyl : ys.length = xl.length := by rw [← hun]; simp
    have hyget : ∀ q y, ys[q]? = some y → y.1 = x0 q := by
      intro q y hq
      rw [← hun] at hq
      simp only [List.getElem?_map, List.getElem?_zipIdx, Option.map_eq_some_iff] at hq
      obtain ⟨p, ⟨z, hz, rfl⟩, rfl⟩ := hq
      have hlt : q < xl.length := (List.getElem?_eq_some_iff.1 hz).1
      have := hxs q hlt
      rw [hz] at this
      simpa using this
    have hyg : ∀ q, q < xl.length → ∃ L, ys[q]? = some (x0 q, L) := fun q hq => by
      have : q < ys.length := by omega
      refine ⟨(ys[q]).2, ?_⟩
      have e := List.getElem?_eq_getElem this
      rw [e]
      have := hyget q _ e
      rw [← this]
    by_cases hn : res.1 = .normal
    · obtain ⟨F, f1, f2, f3, f4⟩ := runP_of (xs := xs) (slotOps σ.heap.length ys) [] fr _ res (fun q y hq => by
        rw [slotOps_get] at hq
        obtain ⟨y', h1, rfl⟩ := Option.map_eq_some_iff.1 hq
        have := hyget q y' h1
        simp only [List.length_nil, Nat.zero_add, xs, sl, ← this]) hr hn
      have hlab : (List.range (slotOps σ.heap.length ys).length).map (([] : List FP).length + ·) = List.range ops.size := by
        rw [slotOps_length, hyl, hln]; simp
      rw [hlab] at f3
      obtain ⟨ex, fr', σ'⟩ := res
      simp only at f2 f3
      subst f2
      have hedge : ∀ i o, ops[i]? = some o → ∀ a ∈ edges o, a < i := by
        intro i o ho a ha
        have hi : i < ops.size := (Array.getElem?_eq_some_iff.1 ho).1
        have := List.all_eq_true.1 hedges i (by simp; omega)
        rw [ho] at this
        simpa using List.all_eq_true.1 this a ha
      have hswap : ∀ i j, i < j → j < ops.size → i ∉ anc ops 64 j → apartI (xs i) (xs j) = true ∧ (F i).ok (F j) = true := by
        intro i j hij hj hanc
        have hi : i < ops.size := by omega
        have hb : (((List.range xl.length).map fun i => (anc ops 64 i).eraseDups).getD j []).contains i = false := by
          simp only [List.getD_eq_getElem?_getD, List.getElem?_map, List.getElem?_range (show j < xl.length by omega), Option.map_some, Option.getD_some]
          cases h : (anc ops 64 j).eraseDups.contains i with
          | false => rfl
          | true =>
            rw [List.contains_iff_mem, List.mem_eraseDups] at h
            exact absurd h hanc
        have h1 := List.all_eq_true.1 hpairs (x0 i, i) (by rw [List.mem_zipIdx_iff_getElem?]; exact hxs i (by omega))
        have h2 := List.all_eq_true.1 h1 (x0 j, j) (by rw [List.mem_zipIdx_iff_getElem?]; exact hxs j (by omega))
        simp only [ge_iff_le, Bool.or_eq_true, decide_eq_true_eq] at h2
        refine ⟨?_, ?_⟩
        · have hap : apartI (xs i) (xs j) = apartI (x0 i) (x0 j) := by
            unfold apartI
            simp only [xs, slotIns_dst, slotIns_reads]
          rw [hap]
          rcases h2 with (h | h) | h
          · omega
          · rw [hb] at h; cases h
          · exact h
        · by_cases ci : (xs i).i.cls = 0
          · rw [runP_cls0 ci _ _ _ _ _ (by simp; omega) f3]; exact ok_no_left _
          · by_cases cj : (xs j).i.cls = 0
            · rw [runP_cls0 cj _ _ _ _ _ (by simp; omega) f3]; exact ok_no_right _
            · have same : ∀ k, (xs k).i.cls ≠ 0 → xs k = x0 k := by
                intro k hk
                cases hnb : (x0 k).newBox with
                | none => exact slotIns_none hnb
                | some b => exact absurd (by show (slotIns (sl k) (x0 k)).i.cls = 0; rw [slotIns_some hnb]; rfl) hk
              have ei := same i ci
              have ej := same j cj
              have hyj : ys[j]? = some (x0 j, (if (x0 j).i.cls = 0 then [] else (xl.zipIdx.filter fun (x, i) => i < j && x.i.cls ≥ 1 && !(((List.range xl.length).map fun i => (anc ops 64 i).eraseDups).getD j []).contains i).map (·.2))) := by
                rw [← hun]
                simp only [List.getElem?_map, List.getElem?_zipIdx, hxs j (by omega), Option.map_some, Nat.zero_add]
              have hyj' : (slotOps σ.heap.length ys)[j]? = some (xs j, (if (x0 j).i.cls = 0 then [] else (xl.zipIdx.filter fun (x, i) => i < j && x.i.cls ≥ 1 && !(((List.range xl.length).map fun i => (anc ops 64 i).eraseDups).getD j []).contains i).map (·.2))) := by
                rw [slotOps_get, hyj]; rfl
              have := f4 j _ hyj' i (by
                rw [ej] at cj
                rw [ei] at ci
                rw [if_neg cj]
                simp only [List.mem_map, List.mem_filter]
                refine ⟨(x0 i, i), ⟨by rw [List.mem_zipIdx_iff_getElem?]; exact hxs i (by omega), ?_⟩, rfl⟩
                simp only [Bool.and_eq_true, decide_eq_true_eq, Bool.not_eq_true']
                exact ⟨⟨hij, by omega⟩, hb⟩) (by simpa using hij)
              simpa using this
      refine wpIn_region_draw (fun t => ?_)
      have hsch : ∃ md ord t', Region.schedule (P.follows .mixedOrders) ops t = Region.linearise md ops t' ∧ ordOk md ops ord = true := by
        unfold Region.schedule
        split
        · exact ⟨.any, _, t, rfl, hoa⟩
        · split
          · exact ⟨.text, _, _, rfl, hot⟩
          · exact ⟨.gc, _, _, rfl, hog⟩
      obtain ⟨md, ord, t', hsch, hord⟩ := hsch
      rw [hsch]
      unfold Region.linearise
      have hzs : ∀ o ∈ slotZs ys, ∃ z tg, o = .box z tg ∧ refsL z = 0 := by
        intro o ho
        obtain ⟨y, h1, h2⟩ := slotZs_mem ys o ho
        obtain ⟨z, tg, h3, rfl⟩ := newBox_eq h2
        refine ⟨z, tg, rfl, ?_⟩
        obtain ⟨q, hq⟩ := List.getElem?_of_mem h1
        have hlt : q < ops.size := by
          have := (List.getElem?_eq_some_iff.1 hq).1
          omega
        obtain ⟨x, e1, e2⟩ := hget q ops[q] (by simp [hlt])
        have e3 := hxs q (by omega)
        rw [e1] at e3
        rw [hyget q y hq] at h3
        rw [Option.some.inj e3] at e2
        have : prepOp P rows ops[q] = some (.alloc z tg) := by
          unfold prepOper at e2
          split at e2
          · rename_i i' g' h4 h5
            rw [← Option.some.inj e2] at h3
            simp only at h3
            rw [h4, h3]
          · cases e2
        obtain ⟨t, _, hc, _⟩ := alloc_of this
        obtain ⟨z', _, _, l, _⟩ := zcells_rel hc (Gh.mk (fun _ _ => none) 0 (fun i => i) (fun i => i) (fun i => i) (fun i => i) (fun i => i) (fun _ => none)) w
        have := LRel.refs _ _ l
        simpa using this
      refine go_sound hC hg (xs := xs) (F := F) (rows := rows) (nt := nt) md hord sl (fun i => (x0 i).newBox) (fun i o ho => ?_) (fun i j bi bj hi hj hij => ?_) (G₀ := G) (σ₀ := σ) (fun i b hi => ?_) (fun i hi d hxd => hd (x0 i) (List.mem_of_getElem? (hxs i (by omega))) d (by rw [← slotIns_dst (m := sl i)]; exact hxd)) hedge hswap ops.size t' _ (List.range ops.size) (G.later (slotZs ys)) (σ.pushL (slotZs ys)) σ' _ fr fr' a Q
        (fun i => ?_) (by simp) List.pairwise_lt_range (fun j o ho hj => ?_) (by simp) f3 (G.le_later _) (.pushL σ _) (fun i hi b hb => ?_) (hw.later hzs).drew (he.mono (G.le_later _)) (hm.mono (G.le_later _)) hQ
      · obtain ⟨x, h1, h2⟩ := hget i o (by simpa using ho)
        have h3 := hxs i (List.getElem?_eq_some_iff.1 h1).1
        rw [h1] at h3
        have h3 := Option.some.inj h3
        subst h3
        cases hnb : (x0 i).newBox with
        | none => exact .inl ⟨rfl, by rw [h2]; show _ = some (slotIns (sl i) (x0 i)); rw [slotIns_none hnb]⟩
        | some b =>
          obtain ⟨z, tg, h4, rfl⟩ := newBox_eq hnb
          refine .inr ⟨z, tg, (x0 i).g, (x0 i).dst, rfl, ?_, ?_⟩
          · rw [h2, ← h4]
          · show slotIns (sl i) (x0 i) = _
            rw [slotIns_some hnb]
      · have hli : i < xl.length := by
          by_cases h : i < xl.length
          · exact h
          · have := hx0 i h; rw [this] at hi; cases hi
        have hlj : j < xl.length := by
          by_cases h : j < xl.length
          · exact h
          · have := hx0 j h; rw [this] at hj; cases hj
        obtain ⟨Li, ei⟩ := hyg i hli
        obtain ⟨Lj, ej⟩ := hyg j hlj
        have hij' : (slotZs (ys.take i)).length = (slotZs (ys.take j)).length := by
          have : σ.heap.length + (slotZs (ys.take i)).length = σ.heap.length + (slotZs (ys.take j)).length := hij
          omega
        rcases Nat.lt_trichotomy i j with h | h | h
        · have := slotZs_lt ys i j _ bi ei hi h; omega
        · exact h
        · have := slotZs_lt ys j i _ bj ej hj h; omega
      · show G.n ≤ σ.heap.length + _
        rw [hw.len]; omega
      · simp only [List.mem_range, Array.getD_eq_getD_getElem?, Array.getElem?_replicate]
        constructor
        · intro h; exact ⟨h, by simp [h]⟩
        · exact fun h => h.1
      · exfalso
        have hlt : j < ops.size := (Array.getElem?_eq_some_iff.1 ho).1
        simp [Array.getD_eq_getD_getElem?, Array.getElem?_replicate, hlt] at hj
      · have hlt : i < ops.size := by simpa using hi
        obtain ⟨L, e⟩ := hyg i (by omega)
        have hzg := slotZs_get ys i _ b e hb
        have hl2 := (List.getElem?_eq_some_iff.1 hzg).1
        have hn := hw.len
        refine ⟨by show σ.heap.length + _ < G.n + _; omega, ?_⟩
        show (if σ.heap.length + _ < G.n then _ else _) = some b
        rw [if_neg (by omega), hn, Nat.add_sub_cancel_left]; exact hzg
    · obtain ⟨F, p₀, v₀, σ₁, y₀, f1, q1, f2, f3, f5, f6, f4, f8, f9, f10, f11⟩ := runP_panic (xs := xs) (slotOps σ.heap.length ys) [] fr _ res (fun q y hq => by
        rw [slotOps_get] at hq
        obtain ⟨y', h1, rfl⟩ := Option.map_eq_some_iff.1 hq
        have := hyget q y' h1
        simp only [List.length_nil, Nat.zero_add, xs, sl, ← this]) hr hn
      have hlab : (List.range p₀).map (([] : List FP).length + ·) = List.range p₀ := by simp
      rw [hlab] at f3
      obtain ⟨ex, fr', σ'⟩ := res
      simp only [List.length_nil, Nat.zero_add] at f2 f3 f5 f6 f10 f11
      subst f2
      have hpp : p₀ < ops.size := by
        have := (List.getElem?_eq_some_iff.1 q1).1
        rw [slotOps_length, hyl, hln] at this; exact this
      have hedge : ∀ i o, ops[i]? = some o → ∀ a ∈ edges o, a < i := by
        intro i o ho a ha
        have hi : i < ops.size := (Array.getElem?_eq_some_iff.1 ho).1
        have := List.all_eq_true.1 hedges i (by simp; omega)
        rw [ho] at this
        simpa using List.all_eq_true.1 this a ha
      have notb : ∀ i j, j < ops.size → i ∉ anc ops 64 j → (((List.range xl.length).map fun i => (anc ops 64 i).eraseDups).getD j []).contains i = false := by
        intro i j hj hanc
        simp only [List.getD_eq_getElem?_getD, List.getElem?_map, List.getElem?_range (show j < xl.length by omega), Option.map_some, Option.getD_some]
        cases h : (anc ops 64 j).eraseDups.contains i with
        | false => rfl
        | true =>
          rw [List.contains_iff_mem, List.mem_eraseDups] at h
          exact absurd h hanc
      have hap : ∀ i j, i < j → j < ops.size → i ∉ anc ops 64 j → apartI (xs i) (xs j) = true := by
        intro i j hij hj hanc
        have hb := notb i j hj hanc
        have h1 := List.all_eq_true.1 hpairs (x0 i, i) (by rw [List.mem_zipIdx_iff_getElem?]; exact hxs i (by omega))
        have h2 := List.all_eq_true.1 h1 (x0 j, j) (by rw [List.mem_zipIdx_iff_getElem?]; exact hxs j (by omega))
        simp only [ge_iff_le, Bool.or_eq_true, decide_eq_true_eq] at h2
        have hap : apartI (xs i) (xs j) = apartI (x0 i) (x0 j) := by
          unfold apartI
          simp only [xs, slotIns_dst, slotIns_reads]
        rw [hap]
        rcases h2 with (h | h) | h
        · omega
        · rw [hb] at h; cases h
        · exact h
      have same : ∀ k, (xs k).i.cls ≠ 0 → xs k = x0 k := by
        intro k hk
        cases hnb : (x0 k).newBox with
        | none => exact slotIns_none hnb
        | some b => exact absurd (by show (slotIns (sl k) (x0 k)).i.cls = 0; rw [slotIns_some hnb]; rfl) hk
      have hyj' : ∀ j, j < ops.size → (slotOps σ.heap.length ys)[j]? = some (xs j, (if (x0 j).i.cls = 0 then [] else (xl.zipIdx.filter fun (x, i) => i < j && x.i.cls ≥ 1 && !(((List.range xl.length).map fun i => (anc ops 64 i).eraseDups).getD j []).contains i).map (·.2))) := by
        intro j hj
        have hyj : ys[j]? = some (x0 j, (if (x0 j).i.cls = 0 then [] else (xl.zipIdx.filter fun (x, i) => i < j && x.i.cls ≥ 1 && !(((List.range xl.length).map fun i => (anc ops 64 i).eraseDups).getD j []).contains i).map (·.2))) := by
          rw [← hun]
          simp only [List.getElem?_map, List.getElem?_zipIdx, hxs j (by omega), Option.map_some, Nat.zero_add]
        rw [slotOps_get, hyj]; rfl
      have memL : ∀ i j, i < j → j < ops.size → i ∉ anc ops 64 j → (xs i).i.cls ≠ 0 → (xs j).i.cls ≠ 0 → i ∈ (if (x0 j).i.cls = 0 then [] else (xl.zipIdx.filter fun (x, i) => i < j && x.i.cls ≥ 1 && !(((List.range xl.length).map fun i => (anc ops 64 i).eraseDups).getD j []).contains i).map (·.2)) := by
        intro i j hij hj hanc ci cj
        have hb := notb i j hj hanc
        rw [same i ci] at ci
        rw [same j cj] at cj
        rw [if_neg cj]
        simp only [List.mem_map, List.mem_filter]
        refine ⟨(x0 i, i), ⟨by rw [List.mem_zipIdx_iff_getElem?]; exact hxs i (by omega), ?_⟩, rfl⟩
        simp only [Bool.and_eq_true, decide_eq_true_eq, Bool.not_eq_true']
        exact ⟨⟨hij, by omega⟩, hb⟩
      have hy0 := hyj' p₀ hpp
      rw [q1] at hy0
      have hy0 := Option.some.inj hy0
      subst hy0
      have hswap : ∀ i j, i < j → j < p₀ → i ∉ anc ops 64 j → apartI (xs i) (xs j) = true ∧ (F i).ok (F j) = true := by
        intro i j hij hj hanc
        refine ⟨hap i j hij (by omega) hanc, ?_⟩
        by_cases ci : (xs i).i.cls = 0
        · rw [runP_cls0 ci _ _ _ _ _ (by simp; omega) f3]; exact ok_no_left _
        · by_cases cj : (xs j).i.cls = 0
          · rw [runP_cls0 cj _ _ _ _ _ (by simp; omega) f3]; exact ok_no_right _
          · have := f4 j _ hj (hyj' j (by omega)) i (memL i j hij (by omega) hanc ci cj) (by simpa using hij)
            simpa using this
      have hbef : ∀ i, i < p₀ → i ∈ anc ops 64 p₀ := by
        intro i hi
        refine Classical.byContradiction fun hanc => ?_
        have ci : (xs i).i.cls ≠ 0 := fun ci => f10 i hi (runP_cls0 ci _ _ _ _ _ (by simp; omega) f3)
        have := memL i p₀ hi hpp hanc ci f9
        simp only at f8
        rw [f8] at this; cases this
      have haft : ∀ j, p₀ < j → j < ops.size → p₀ ∈ anc ops 64 j := by
        intro j hj hjs
        refine Classical.byContradiction fun hanc => ?_
        have h11 := f11 j _ hj (hyj' j hjs)
        simp only at h11
        split at h11
        · rw [hap p₀ j hj hjs hanc] at h11; cases h11
        · rename_i cj
          exact h11 (memL p₀ j hj hjs hanc f9 cj)
      refine wpIn_region_draw (fun t => ?_)
      have hsch : ∃ md ord t', Region.schedule (P.follows .mixedOrders) ops t = Region.linearise md ops t' ∧ ordOk md ops ord = true := by
        unfold Region.schedule
        split
        · exact ⟨.any, _, t, rfl, hoa⟩
        · split
          · exact ⟨.text, _, _, rfl, hot⟩
          · exact ⟨.gc, _, _, rfl, hog⟩
      obtain ⟨md, ord, t', hsch, hord⟩ := hsch
      rw [hsch]
      unfold Region.linearise
      have hzs : ∀ o ∈ slotZs ys, ∃ z tg, o = .box z tg ∧ refsL z = 0 := by
        intro o ho
        obtain ⟨y, h1, h2⟩ := slotZs_mem ys o ho
        obtain ⟨z, tg, h3, rfl⟩ := newBox_eq h2
        refine ⟨z, tg, rfl, ?_⟩
        obtain ⟨q, hq⟩ := List.getElem?_of_mem h1
        have hlt : q < ops.size := by
          have := (List.getElem?_eq_some_iff.1 hq).1
          omega
        obtain ⟨x, e1, e2⟩ := hget q ops[q] (by simp [hlt])
        have e3 := hxs q (by omega)
        rw [e1] at e3
        rw [hyget q y hq] at h3
        rw [Option.some.inj e3] at e2
        have : prepOp P rows ops[q] = some (.alloc z tg) := by
          unfold prepOper at e2
          split at e2
          · rename_i i' g' h4 h5
            rw [← Option.some.inj e2] at h3
            simp only at h3
            rw [h4, h3]
          · cases e2
        obtain ⟨t, _, hc, _⟩ := alloc_of this
        obtain ⟨z', _, _, l, _⟩ := zcells_rel hc (Gh.mk (fun _ _ => none) 0 (fun i => i) (fun i => i) (fun i => i) (fun i => i) (fun i => i) (fun _ => none)) w
        have := LRel.refs _ _ l
        simpa using this
      refine go_panic hC hg (xs := xs) (F := F) (rows := rows) (nt := nt) md hord sl (fun i => (x0 i).newBox) (fun i o ho => ?_) (fun i j bi bj hi hj hij => ?_) (G₀ := G) (σ₀ := σ) (fun i b hi => ?_) (fun i hi d hxd => hd (x0 i) (List.mem_of_getElem? (hxs i (by omega))) d (by rw [← slotIns_dst (m := sl i)]; exact hxd)) hedge hpp hswap hbef haft ops.size t' _ (List.range p₀) (G.later (slotZs ys)) (σ.pushL (slotZs ys)) σ₁ _ fr fr' a Q
        (fun i => ?_) (by simp) (fun j _ hj => by simp [Array.getElem?_replicate, hj]) List.pairwise_lt_range (fun j o ho hj => ?_) (by simpa using hpp) f3 f5 f6 (G.le_later _) (.pushL σ _) (fun i hi b hb => ?_) (hw.later hzs).drew (he.mono (G.le_later _)) (hm.mono (G.le_later _)) hQ
      · obtain ⟨x, h1, h2⟩ := hget i o (by simpa using ho)
        have h3 := hxs i (List.getElem?_eq_some_iff.1 h1).1
        rw [h1] at h3
        have h3 := Option.some.inj h3
        subst h3
        cases hnb : (x0 i).newBox with
        | none => exact .inl ⟨rfl, by rw [h2]; show _ = some (slotIns (sl i) (x0 i)); rw [slotIns_none hnb]⟩
        | some b =>
          obtain ⟨z, tg, h4, rfl⟩ := newBox_eq hnb
          refine .inr ⟨z, tg, (x0 i).g, (x0 i).dst, rfl, ?_, ?_⟩
          · rw [h2, ← h4]
          · show slotIns (sl i) (x0 i) = _
            rw [slotIns_some hnb]
      · have hli : i < xl.length := by
          by_cases h : i < xl.length
          · exact h
          · have := hx0 i h; rw [this] at hi; cases hi
        have hlj : j < xl.length := by
          by_cases h : j < xl.length
          · exact h
          · have := hx0 j h; rw [this] at hj; cases hj
        obtain ⟨Li, ei⟩ := hyg i hli
        obtain ⟨Lj, ej⟩ := hyg j hlj
        have hij' : (slotZs (ys.take i)).length = (slotZs (ys.take j)).length := by
          have : σ.heap.length + (slotZs (ys.take i)).length = σ.heap.length + (slotZs (ys.take j)).length := hij
          omega
        rcases Nat.lt_trichotomy i j with h | h | h
        · have := slotZs_lt ys i j _ bi ei hi h; omega
        · exact h
        · have := slotZs_lt ys j i _ bj ej hj h; omega
      · show G.n ≤ σ.heap.length + _
        rw [hw.len]; omega
      · simp only [List.mem_range, Array.getD_eq_getD_getElem?, Array.getElem?_replicate]
        constructor
        · intro h; exact ⟨h, by simp [Nat.lt_trans h hpp]⟩
        · exact fun h => h.1
      · exfalso
        have hlt : j < ops.size := (Array.getElem?_eq_some_iff.1 ho).1
        simp [Array.getD_eq_getD_getElem?, Array.getElem?_replicate, hlt] at hj
      · have hlt : i < ops.size := Nat.lt_trans (by simpa using hi) hpp
        obtain ⟨L, e⟩ := hyg i (by omega)
        have hzg := slotZs_get ys i _ b e hb
        have hl2 := (List.getElem?_eq_some_iff.1 hzg).1
        have hn := hw.len
        refine ⟨by show σ.heap.length + _ < G.n + _; omega, ?_⟩
        show (if σ.heap.length + _ < G.n then _ else _) = some b
        rw [if_neg (by omega), hn, Nat.add_sub_cancel_left]; exact hzg
  · cases hun

theorem loopOk_iter (n : Nat) : LoopOk (iter n) := fun _ _ _ _ h => ⟨n, h⟩

/-- **Calls, to any depth.** -/
theorem callV_sound (hg : GlobOk X B w₀) (hX : CodeOk P X) (hP : ∀ f p, X.prim f = some p → PrimOk P B w₀ f p) : ∀ n, CallOk P B w₀ (callV X n)
  | 0 => by intro fv args σ cr h; simp [callV] at h
  | n + 1 => step_sound (callV_sound hg hX hP n) hg hX (drawOk hg) (loopOk_iter n) hP

end Go.Den

/- Den: contracts out of runs; a law's call. -/
namespace Go.Den
open Go Go.RowKit

variable {P : Program} {X : Ctx} {B : Nat} {w₀ : World}

/-- Where a law begins: nothing is known but what lies there. -/
def Gh.start (w : World) : Gh where
  frz b o := if b < w.heap.size then w.cell? ⟨b, o, none⟩ else none
  n := 0
  blk := id
  base := id
  ver := id
  lim := id
  sz := id

theorem WRel.start (w : World) : WRel P w.heap.size w (Gh.start w) { heap := [], lo := none } w where
  len := rfl
  frz b o v h := by
    simp only [Gh.start] at h
    split at h
    · exact h
    · cases h
  obj id o h := by simp at h
  inj i j hi := absurd hi.1 (Nat.not_lt_zero _)
  sep i hi := absurd hi.1 (Nat.not_lt_zero _)
  low i hi := absurd hi.1 (Nat.not_lt_zero _)
  pob i o hi := absurd hi (Nat.not_lt_zero _)
  bel := ⟨rfl, rfl, rfl, Nat.le_refl _, fun _ _ => rfl⟩
  hB := Nat.le_refl _
  old b o v hb h := by simp only [Gh.start]; rw [if_pos hb]; exact h

/-- A function's contract out of its code's runs: the callers' fuel may hang on the arguments. -/
theorem PrimOk.of_code (hg : GlobOk X B w₀) (hX : CodeOk P X) (hP : ∀ f p, X.prim f = some p → PrimOk P B w₀ f p) {f : FuncId} {pf : PF} (hf : X.code f = some pf) {p : List AV → AS → Option CRes}
    (h : ∀ args σ cr, p args σ = some cr → args.length ≤ pf.ntmps ∧ ∃ n k, leave X σ.heap.length σ.lo pf (runCode X (callV X n) (iter k) f false pf.body { env := envOf args, marks := [] } { heap := σ.heap, lo := none }) = some cr) : PrimOk P B w₀ f p := by
  intro args σ cr hp G w args' hw hl
  obtain ⟨hn, n, k, hr⟩ := h args σ cr hp
  obtain ⟨rows, fn, hfn, hpre⟩ := hX f pf hf
  obtain ⟨c, hb, _, _, _, hname⟩ := prepF_of hpre
  have hrun : (callFunc f args').run P w = .ok (.enter f args') w := by
    have hn' : ¬ fn.name = "runtime.NumGoroutine" := by simpa using hname
    simp [callFunc, run_program, hfn, hn', hb]
  rw [hrun]
  exact func_sound (callV_sound hg hX hP n) hg hX (drawOk hg) (loopOk_iter k) hf hn hr hw hl

/-- The same for a recursive function: what has been shown of smaller arguments may be used. -/
theorem PrimOk.of_rec {f : FuncId} {pf : PF} {p : List AV → AS → Option CRes} (μ : List AV → AS → Nat) (Y : (List AV → AS → Option CRes) → Ctx) (hg : ∀ q, GlobOk (Y q) B w₀) (hX : ∀ q, CodeOk P (Y q))
    (hP : ∀ q, PrimOk P B w₀ f q → ∀ g r, (Y q).prim g = some r → PrimOk P B w₀ g r) (hf : ∀ q, (Y q).code f = some pf)
    (h : ∀ m args σ cr, μ args σ = m → p args σ = some cr → args.length ≤ pf.ntmps ∧ ∃ n k, leave (Y fun a s => if μ a s < m then p a s else none) σ.heap.length σ.lo pf
      (runCode (Y fun a s => if μ a s < m then p a s else none) (callV (Y fun a s => if μ a s < m then p a s else none) n) (iter k) f false pf.body { env := envOf args, marks := [] } { heap := σ.heap, lo := none }) = some cr) : PrimOk P B w₀ f p := by
  have key : ∀ m, PrimOk P B w₀ f (fun a s => if μ a s < m then p a s else none) := by
    intro m
    induction m with
    | zero => intro args σ cr hp; simp at hp
    | succ m ih =>
      have now : PrimOk P B w₀ f (fun a s => if μ a s = m then p a s else none) := by
        refine PrimOk.of_code (X := Y fun a s => if μ a s < m then p a s else none) (hg _) (hX _) (hP _ ih) (hf _) (fun args σ cr hp => ?_)
        split at hp
        · rename_i hm; exact h m args σ cr hm hp
        · cases hp
      intro args σ cr hp
      have hp : (if μ args σ < m + 1 then p args σ else none) = some cr := hp
      split at hp
      · rename_i hlt
        by_cases hm : μ args σ = m
        · exact now args σ cr (by simp [hm, hp])
        · exact ih args σ cr (by
            have : μ args σ < m := by omega
            simp [this, hp])
      · cases hp
  intro args σ cr hp
  exact key (μ args σ + 1) args σ cr (by simp [hp])

/-- **A law's call.** -/
theorem PrimOk.calls {f : FuncId} {p : List AV → AS → Option CRes} {w : World} (h : PrimOk P w.heap.size w f p) {fn : Func} (hfn : P.funcs[f]? = some fn) (hb : fn.body.isSome = true) (hname : (fn.name == "runtime.NumGoroutine") = false)
    {args : List AV} {args' : Array Value} (hl : LRel (Gh.start w) args args'.toList) {v : AV} {σ' : AS} (hp : p args { heap := [], lo := none } = some (.ret v σ')) :
    Calls P f args' w fun e w' => ∃ G v', e = .returned v' ∧ VRel G v v' ∧ Below w.heap.size w w' := by
  have hk := h args _ _ hp (Gh.start w) w args' (.start w) hl
  have hrun : (callFunc f args').run P w = .ok (.enter f args') w := by
    have hn' : ¬ fn.name = "runtime.NumGoroutine" := by simpa using hname
    obtain ⟨c, hc⟩ := Option.isSome_iff_exists.1 hb
    simp [callFunc, run_program, hfn, hn', hc]
  rw [hrun] at hk
  have hk' : CallsIn Fence.wide 0 P f args' w (Ends P w.heap.size w (Gh.start w) { heap := [], lo := none } (.ret v σ')) := hk
  refine callsIn_wide.1 (hk'.mono fun e w' he => ?_)
  cases e with
  | returned v' =>
    obtain ⟨G', h1, h2, h3, _⟩ := he
    exact ⟨G', v', rfl, h3, h2.bel⟩
  | panicked _ => exact he.elim
  | outgrown => exact he.elim

end Go.Den
