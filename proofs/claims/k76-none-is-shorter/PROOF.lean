import PyProof.Rows.All
import Wide.All
import OpenK.AllK
import Wide.FinOn
import HandS.ForMost
import HandS.Codes
import HandS.Deep
import HandS.Conv
import HandS.SortInts
import HandS.Property
import HandS.ClsMeth
import HandS.Defaults
import HandS.IsInst
import HandS.Style
import HandS.Walk
import HandS.DictComp
import HandS.GenCall
import HandS.MakeKwOnly
import HandS.GenList
import PyProof.EnumMake
import PySem.Challenge.RW_bearsmisses_k76_whole_none_is_shorter
set_option Elab.async false
set_option linter.all false
set_option maxRecDepth 100000
set_option maxHeartbeats 8000000
/-! The plain law: orders, gates, rows; no program in sight. -/
namespace K76
/-- the rank at a place -/
def atN (o : List Nat) (i : Nat) : Nat := o.getD i 0
def bad (o : List Nat) (g : Nat) : Bool := decide (atN o g < atN o (g - 1))
def swp (o : List Nat) (g : Nat) : List Nat := (o.set (g - 1) (atN o g)).set g (atN o (g - 1))
def step (o : List Nat) (g : Nat) : List Nat := if bad o g then swp o g else o
def plays (gs o : List Nat) : List Nat := gs.foldl step o
def fall (n : Nat) : List Nat := (List.range n).reverse
/-- the numbers of the comparisons that exchange two items -/
def exch : List Nat → List Nat → Nat → List Nat
  | [], _, _ => []
  | g :: gs, o, i => if bad o g then i :: exch gs (step o g) (i + 1) else exch gs (step o g) (i + 1)
/-- the capacities, by a final order -/
def held (n : Nat) (last : List Nat) : List (List Nat) :=
  (List.range (n + 1)).map fun k => (List.range (n + 1)).map fun t => ((last.drop t).filter fun r => decide (n - k ≤ r)).length
/-- one more gate behind each row, no gate twice in a row -/
def longer1 (n : Nat) (row : List Nat) : List (List Nat) :=
  (((List.range (n - 1)).map (· + 1)).filter fun g => decide (row.getLast? ≠ some g)).map fun g => row ++ [g]
def longer (n : Nat) (last : List (List Nat)) : List (List Nat) := last.flatMap (longer1 n)
def rowsK (n : Nat) : Nat → List (List Nat) × List (List Nat)
  | 0 => ([[]], [[]])
  | m + 1 => let p := rowsK n m; (p.1 ++ longer n p.2, longer n p.2)
def rows (n m : Nat) : List (List Nat) := (rowsK n m).1
/-- the gates that sort an order, place by place -/
def sink (o : List Nat) : Nat → List Nat × List Nat → List Nat × List Nat
  | 0, p => p
  | g + 1, p => sink o g (if bad p.1 (g + 1) then (swp p.1 (g + 1), p.2 ++ [g + 1]) else p)
def sorting (o : List Nat) : List Nat :=
  ((List.range (o.length - 1)).foldl (fun p i => sink o (i + 1) p) (o, [])).2
/-- the places of the items from the first k places of the falling order -/
def hinds (n k : Nat) (last : List Nat) : List Nat := (List.range last.length).filter fun p => decide (n - k ≤ atN last p)
/-- the gates that raise a capacity -/
def raising (n k t s : Nat) (last : List Nat) : List Nat :=
  (List.range s).reverse.flatMap fun i => List.range' (atN ((hinds n k last).drop (k - s)) i + 1) (t + i - atN ((hinds n k last).drop (k - s)) i)
def inv : List Nat → Nat
  | [] => 0
  | x :: r => (r.filter fun y => decide (y < x)).length + inv r
def ins (x : Nat) : List Nat → List (List Nat)
  | [] => [[x]]
  | y :: r => (x :: y :: r) :: (ins x r).map (y :: ·)
def perms : Nat → List (List Nat)
  | 0 => [[]]
  | n + 1 => (perms n).flatMap (ins n)

/-! ### finite facts -/
def okHeld (n : Nat) : Bool := (perms n).all fun o => ((rows n (n * (n - 1) / 2)).find? (fun r => held n (plays r (fall n)) == held n o)).map (·.length) == some (inv (fall n) - inv o)
def okSort (n : Nat) : Bool := (perms n).all fun o => ((rows n (n * (n - 1) / 2)).find? (fun r => plays r o == List.range n)).map (·.length) == some (sorting o).length
def okRaise (n : Nat) : Bool := (perms n).all fun o => (List.range (n + 1)).all fun k => (List.range (n + 1)).all fun t => (List.range (n + 1)).all fun s =>
  decide (k < s) || decide (n - t < s) || (((rows n (n * (n - 1) / 2)).find? (fun r => decide (s ≤ ((held n (plays r o)).getD k []).getD t 0))).map (·.length) == some (raising n k t s o).length)
def okStep (n : Nat) : Bool := (perms n).all fun o => (List.range (n - 1)).all fun g => (perms n).contains (step o (g + 1)) && (!bad o (g + 1) || inv (step o (g + 1)) + 1 == inv o)
def okPerm (n : Nat) : Bool := (perms n).contains (fall n) && (perms n).all fun o => o.length == n && (List.range n).all fun i => o.contains i
theorem held2 : okHeld 2 = true := by decide +kernel
theorem held3 : okHeld 3 = true := by decide +kernel
theorem held4 : okHeld 4 = true := by decide +kernel
theorem sort2 : okSort 2 = true := by decide +kernel
theorem sort3 : okSort 3 = true := by decide +kernel
theorem sort4 : okSort 4 = true := by decide +kernel
theorem raise2 : okRaise 2 = true := by decide +kernel
theorem raise3 : okRaise 3 = true := by decide +kernel
theorem raise4 : okRaise 4 = true := by decide +kernel
theorem step2 : okStep 2 = true := by decide +kernel
theorem step3 : okStep 3 = true := by decide +kernel
theorem step4 : okStep 4 = true := by decide +kernel
theorem perm2 : okPerm 2 = true := by decide +kernel
theorem perm3 : okPerm 3 = true := by decide +kernel
theorem perm4 : okPerm 4 = true := by decide +kernel
end K76
namespace K76
open L2 PySem PySem.Spec PyProof.Rows
/-! ### numbers as values, as data -/
def iv (n : Nat) : V := .int (n : Int)
def nv (l : List Nat) : List V := l.map iv
def di (n : Nat) : PyData := .int (n : Int)
def dl (l : List Nat) : PyData := .list (l.map di)
def dll (m : List (List Nat)) : PyData := .list (m.map dl)
theorem nv_len (l : List Nat) : (nv l).length = l.length := List.length_map ..
theorem nv_get {l : List Nat} {i x : Nat} (h : l[i]? = some x) : (nv l)[i]? = some (iv x) := by
  unfold nv
  rw [List.getElem?_map, h]
  rfl
theorem nv_at {l : List Nat} {i : Nat} (h : i < l.length) : (nv l)[i]? = some (iv (atN l i)) := by
  refine nv_get ?_
  unfold atN
  rw [List.getD_eq_getElem?_getD, List.getElem?_eq_getElem h]
  rfl
theorem iv_inj {a b : Nat} (h : iv a = iv b) : a = b := by
  injection h with h
  omega
theorem nv_of_get {l : List Nat} {i : Nat} {v : V} (h : (nv l)[i]? = some v) : ∃ x, l[i]? = some x ∧ v = iv x := by
  unfold nv at h
  rw [List.getElem?_map] at h
  cases e : l[i]? with
  | none =>
    rw [e] at h
    cases h
  | some x =>
    rw [e] at h
    exact ⟨x, rfl, (Option.some.inj h).symm⟩
theorem nv_app (l m : List Nat) : nv (l ++ m) = nv l ++ nv m := List.map_append ..
theorem nv_set (l : List Nat) (i x : Nat) : nv (l.set i x) = (nv l).set i (iv x) := by
  unfold nv
  rw [List.map_set]
theorem nv_one (x : Nat) : nv [x] = [iv x] := rfl
theorem nv_inj {l m : List Nat} (h : nv l = nv m) : l = m := by
  induction l generalizing m with
  | nil =>
    cases m with
    | nil => rfl
    | cons y m => cases h
  | cons x l ih =>
    cases m with
    | nil => cases h
    | cons y m =>
      injection h with h1 h2
      rw [iv_inj h1, ih h2]
theorem nv_ints (l : List Nat) : nv l = (l.map fun (n : Nat) => (n : Int)).map V.int := by
  unfold nv iv
  rw [List.map_map]
  rfl
theorem rgV_nv (n : Nat) : rgV 0 (n : Int) = nv (List.range n) := by
  unfold rgV nv iv
  rw [show ((n : Int) - 0).toNat = n by omega]
  exact List.map_congr_left fun i _ => by rw [show (0 : Int) + (i : Int) = (i : Int) by omega]
theorem rgV_from (a b : Nat) : rgV (a : Int) (b : Int) = nv (List.range' a (b - a)) := by
  unfold rgV nv iv
  rw [show ((b : Int) - (a : Int)).toNat = b - a by omega, List.range'_eq_map_range, List.map_map]
  exact List.map_congr_left fun i _ => by
    show V.int ((a : Int) + (i : Nat)) = V.int ((a + i : Nat) : Int)
    rw [show ((a + i : Nat) : Int) = (a : Int) + (i : Nat) by omega]
theorem nv_rev (l : List Nat) : (nv l).reverse = nv l.reverse := (List.map_reverse ..).symm
/-! ### equal data -/
theorem di_eqv (a b : Nat) : PyData.eqv (di a) (di b) = decide (a = b) := by
  show ((a : Int) == (b : Int)) = decide (a = b)
  by_cases h : a = b
  · rw [h, decide_eq_true rfl]
    exact beq_self_eq_true _
  · rw [decide_eq_false h]
    exact beq_eq_false_iff_ne.mpr fun e => h (by omega)
theorem all_eqv {α : Type} [DecidableEq α] (f : α → PyData) (hf : ∀ a b, PyData.eqv (f a) (f b) = decide (a = b)) : ∀ l m : List α, PyData.eqvAll (l.map f) (m.map f) = decide (l = m)
  | [], [] => by simp [List.map, PyData.eqvAll]
  | [], y :: ys => by simp [List.map, PyData.eqvAll]
  | x :: xs, [] => by simp [List.map, PyData.eqvAll]
  | a :: l, b :: m => by
    rw [List.map_cons, List.map_cons, PyData.eqvAll, hf, all_eqv f hf l m]
    by_cases h1 : a = b
    · by_cases h2 : l = m
      · simp [h1, h2]
      · simp [h1, h2]
    · simp [h1]
theorem dl_eqv (l m : List Nat) : PyData.eqv (dl l) (dl m) = decide (l = m) := by
  unfold dl
  rw [PyData.eqv]
  exact all_eqv di di_eqv l m
theorem dll_eqv (l m : List (List Nat)) : PyData.eqv (dll l) (dll m) = decide (l = m) := by
  unfold dll
  rw [PyData.eqv]
  exact all_eqv dl dl_eqv l m
theorem all_lay {α : Type} (f : α → PyData) (hf : ∀ a, (f a).canLay0 = true) : ∀ l : List α, PyData.canLayAll0 (l.map f) = true
  | [] => by simp [List.map, PyData.canLayAll0]
  | a :: l => by
    rw [List.map_cons, PyData.canLayAll0, hf, all_lay f hf l]
    rfl
theorem all_depth {α : Type} (f : α → PyData) (k : Nat) (hf : ∀ a, (f a).depth ≤ k) : ∀ l : List α, PyData.depthAll (l.map f) ≤ k
  | [] => by simp [List.map, PyData.depthAll]
  | a :: l => by
    have h1 := all_depth f k hf l
    have h2 := hf a
    simp only [PyData.depthAll, List.map_cons]
    omega
theorem di_lay (n : Nat) : (di n).canLay0 = true := by
  unfold di
  simp [PyData.canLay0]
theorem di_depth (n : Nat) : (di n).depth ≤ 1 := by
  unfold di
  simp [PyData.depth]
theorem dl_lay (l : List Nat) : (dl l).canLay0 = true := by
  unfold dl
  simp only [PyData.canLay0]
  exact all_lay di di_lay l
theorem dl_depth (l : List Nat) : (dl l).depth ≤ 2 := by
  have h := all_depth di 1 di_depth l
  unfold dl
  simp only [PyData.depth]
  omega
theorem dll_lay (l : List (List Nat)) : (dll l).canLay0 = true := by
  unfold dll
  simp only [PyData.canLay0]
  exact all_lay dl dl_lay l
theorem dll_depth (l : List (List Nat)) : (dll l).depth ≤ 3 := by
  have h := all_depth dl 2 dl_depth l
  unfold dll
  simp only [PyData.depth]
  omega
theorem shaped_of {d : PyData} {k : Nat} (h1 : d.canLay0 = true) (h2 : d.depth ≤ k) (hk : k ≤ 64) : SeqAt.shaped d = true := by
  unfold SeqAt.shaped
  rw [h1, decide_eq_true (Nat.le_trans h2 hk)]
  rfl
theorem dl_shaped (l : List Nat) : SeqAt.shaped (dl l) = true := shaped_of (dl_lay l) (dl_depth l) (by decide)
theorem dll_shaped (l : List (List Nat)) : SeqAt.shaped (dll l) = true := shaped_of (dll_lay l) (dll_depth l) (by decide)
section
variable {K : PySem.W.Frag} {H : Hp} {a : Addr}
theorem dpAll_nv : ∀ l : List Nat, DpAll K H (nv l) (l.map di)
  | [] => .nil
  | x :: l => .cons (.int _) (dpAll_nv l)
theorem dp_nv {l : List Nat} (h : SqL K H a (nv l)) : Dp K H (.ref a) (dl l) := .lst h (dpAll_nv l)
/-- a list of lists of numbers: where the rows stand -/
def Rows (K : PySem.W.Frag) (H : Hp) (ps : List Addr) (m : List (List Nat)) : Prop := Paired (fun p l => SqL K H p (nv l)) ps m
theorem dpAll_rows : ∀ {ps : List Addr} {m : List (List Nat)}, Rows K H ps m → DpAll K H (ps.map V.ref) (m.map dl)
  | _, _, .nil => .nil
  | _, _, .cons h t => .cons (dp_nv h) (dpAll_rows t)
theorem dp_rows {ps : List Addr} {m : List (List Nat)} (h : SqL K H a (ps.map V.ref)) (r : Rows K H ps m) : Dp K H (.ref a) (dll m) := .lst h (dpAll_rows r)
end
/-! ### heaps -/
theorem _root_.L2.Same.upd {H H1 : Hp} {p : Addr} {o : HO} (s : Same H H1) (h : H1 p = none) : Same H (upd H1 p o) := fun b x e => by
  have e1 := s b x e
  rw [upd_ne (ne_of_none e1 h)]
  exact e1
theorem _root_.L2.Same.put {H H1 : Hp} {p : Addr} {o : HO} (s : Same H H1) (h : H p = none) : Same H (L2.upd H1 p o) := fun b x e => by
  rw [upd_ne (ne_of_none e h)]
  exact s b x e
theorem _root_.L2.Same.new {H : Hp} {p : Addr} {o : HO} (h : H p = none) : Same H (L2.upd H p o) := Same.upd (Same.refl H) h
theorem _root_.L2.Same.at {H H1 : Hp} {p : Addr} {o : HO} (s : Same H H1) (h : H p = some o) : H1 p = some o := s p o h
theorem Rows.same {K : PySem.W.Frag} {H H1 : Hp} (s : Same H H1) : ∀ {ps : List Addr} {m : List (List Nat)}, Rows K H ps m → Rows K H1 ps m
  | _, _, .nil => .nil
  | _, _, .cons h t => .cons (s.seq h) (Rows.same s t)
theorem Rows.app {K : PySem.W.Frag} {H : Hp} {p : Addr} {l : List Nat} (hp : SqL K H p (nv l)) : ∀ {ps : List Addr} {m : List (List Nat)}, Rows K H ps m → Rows K H (ps ++ [p]) (m ++ [l])
  | _, _, .nil => .cons hp .nil
  | _, _, .cons h t => .cons h (Rows.app hp t)
theorem Rows.cat {K : PySem.W.Frag} {H : Hp} {qs : List Addr} {k : List (List Nat)} (r : Rows K H qs k) : ∀ {ps : List Addr} {m : List (List Nat)}, Rows K H ps m → Rows K H (ps ++ qs) (m ++ k)
  | _, _, .nil => r
  | _, _, .cons h t => .cons h (Rows.cat r t)
theorem Rows.get {K : PySem.W.Frag} {H : Hp} : ∀ {ps : List Addr} {m : List (List Nat)} {i : Nat} {p : Addr}, Rows K H ps m → ps[i]? = some p → ∃ l, m[i]? = some l ∧ SqL K H p (nv l)
  | _, _, _, _, .nil, e => absurd e (by simp)
  | _, _, 0, _, .cons h t, e => ⟨_, rfl, by
      have e' := Option.some.inj e
      rw [← e']
      exact h⟩
  | _, _, i + 1, _, .cons h t, e => Rows.get (i := i) t e
theorem Rows.len {K : PySem.W.Frag} {H : Hp} {ps : List Addr} {m : List (List Nat)} (r : Rows K H ps m) : ps.length = m.length := Paired.length r
/-- lists, tuples, dicts: what bears no object of its own beside -/
def Plain : HO → Prop
  | .lst _ => True
  | .tup _ => True
  | .dK _ => True
  | _ => False
/-- a heap that has grown by plain things -/
def Grown (H H' : Hp) : Prop := ∀ b u, H' b = some u → H b = some u ∨ Plain u
theorem Grown.refl (H : Hp) : Grown H H := fun _ _ h => .inl h
theorem Grown.trans {H H1 H2 : Hp} (a : Grown H H1) (b : Grown H1 H2) : Grown H H2 := fun c u h => (b c u h).elim (fun z => a c u z) .inr
theorem Grown.upd {H H1 : Hp} {p : Addr} {o : HO} (s : Grown H H1) (ho : Plain o) : Grown H (L2.upd H1 p o) := fun b u h => by
  by_cases e : b = p
  · subst e
    rw [upd_same] at h
    exact .inr (by rw [← Option.some.inj h]; exact ho)
  · rw [upd_ne e] at h
    exact s b u h
theorem bl_t {p : Prop} [Decidable p] (h : p) : V.bl (decide p) = V.bl true := by
  rw [decide_eq_true h]
theorem bl_f {p : Prop} [Decidable p] (h : ¬ p) : V.bl (decide p) = V.bl false := by
  rw [decide_eq_false h]
theorem q_t {p : Prop} [Decidable p] {Q : VK} {H : Hp} (h : p) (q : Q (.bl true) H) : Q (.bl (decide p)) H := by
  rw [decide_eq_true h]
  exact q
theorem q_f {p : Prop} [Decidable p] {Q : VK} {H : Hp} (h : ¬ p) (q : Q (.bl false) H) : Q (.bl (decide p)) H := by
  rw [decide_eq_false h]
  exact q
theorem small {n k : Nat} (h : n ≤ k) (hk : k ≤ 100000 := by decide) : n < sizeLine := Nat.lt_of_le_of_lt (Nat.le_trans h hk) (by decide)
theorem small' {n k : Nat} (h : n ≤ k) (hk : k ≤ 100000 := by decide) : n ≤ sizeLine := Nat.le_of_lt (small h hk)
end K76
namespace K76
open L2 PySem PySem.Spec PyProof.Rows
def top (i : Nat) : Stmt := PySem.Challenge.pw_bearsmisses_k76_whole_none_is_shorter.main.body.getD i (.Pass ⟨0, 0, 0, 0⟩)
/-- the built-in names that the text leaves alone, and its constants -/
structure Gs (K : PySem.W.Frag) (mg : Str → Option Value) : Prop where
  isi : mg "isinstance" = none
  int : mg "int" = none
  bool : mg "bool" = none
  list : mg "list" = none
  tuple : mg "tuple" = none
  len : mg "len" = none
  range : mg "range" = none
  all : mg "all" = none
  sorted : mg "sorted" = none
  enum : mg "enumerate" = none
  abs : mg "abs" = none
  mPlaces : ∃ u, mg "MAX_PLACES" = some u ∧ RelV (.int 12) u
  mComps : ∃ u, mg "MAX_COMPARISONS" = some u ∧ RelV (.int 400) u
  mPrice : ∃ u, mg "MAX_PRICE" = some u ∧ RelV (.int 1000000000000000000) u
end K76
namespace K76
open L2 PySem PySem.Spec PyProof.Rows
section
variable {P : Program} {w : World} {base : Heap} {K : PySem.W.Frag} {mg : Str → Option Value}
/-! ### kinds -/
def spInt : Sp := fun vs H Q _ => ∃ i : Int, vs = [.int i] ∧ Q (.bl true) H
theorem c_is_integer (g : Gs K mg) {f : Addr} {fd : FuncData} (D : C8.Def K mg "is_integer" (top 12) f fd) (b : Binds K fd ["thing"] []) : C8.Cal P w K mg base 1 "is_integer" spInt [] := by
  refine C8.cal0 D b .nil (N := ["thing"]) (C8.fnScope_by (by decide +kernel)) (fun vs H Q E h => ?_) (fun cdv A outer s H vs Q E hr h => ?_)
  · obtain ⟨i, rfl, _⟩ := h
    rfl
  · obtain ⟨i, rfl, q⟩ := h
    refine ⟨_, pss_one (ps_ret (pe_and (pe_callB call_isi (by rfl) g.isi (by decide +kernel) (pa_cons (pv 0) (pa_cons (pe_bltn (v := .ty "int") (by rfl) g.int (by decide +kernel) rfl) pa_nil)))
      (pe_one (pe_not (pe_callB call_isi (by rfl) g.isi (by decide +kernel) (pa_cons (pv 0) (pa_cons (pe_bltn (v := .ty "bool") (by rfl) g.bool (by decide +kernel) rfl) pa_nil))))))), ?_⟩
    refine ⟨.int i, rfl, .int i, .ty "int", _, _, true, rfl, .ty "int", .base (.int i), kit_ty (by decide +kernel), true, rfl, iteT ?_⟩
    exact ⟨.int i, rfl, .int i, .ty "bool", _, _, false, rfl, .ty "bool", .base (.int i), kit_ty (by decide +kernel), false, rfl, q⟩
/-- an int between two bounds -/
def spBetween : Sp := fun vs H Q _ => ∃ i lo hi : Int, vs = [.int i, .int lo, .int hi] ∧ lo ≤ i ∧ i ≤ hi ∧ Q (.bl true) H
theorem c_is_between {f : Addr} {fd : FuncData} (D : C8.Def K mg "is_between" (top 13) f fd) (b : Binds K fd ["thing", "low", "high"] []) (cI : C8.Cal P w K mg base 1 "is_integer" spInt []) : C8.Cal P w K mg base 2 "is_between" spBetween [] := by
  refine C8.cal0 D b .nil (N := ["thing", "low", "high"]) (C8.fnScope_by (by decide +kernel)) (fun vs H Q E h => ?_) (fun cdv A outer s H vs Q E hr h => ?_)
  · obtain ⟨i, lo, hi, rfl, _⟩ := h
    rfl
  · obtain ⟨i, lo, hi, rfl, h1, h2, q⟩ := h
    refine ⟨_, pss_one (ps_ret (pe_and (C8.pe_c cI hr (by decide) (by rfl) (pa_cons (pv 0) pa_nil)) (pe_one (pe_chain op_le op_le (pv 1) (pv 0) (pv 2))))), ?_⟩
    refine ⟨.int i, rfl, i, rfl, true, rfl, iteT ?_⟩
    exact ⟨.int lo, rfl, .int i, rfl, lo, i, rfl, rfl, true, bl_t h1, iteT ⟨.int hi, rfl, i, hi, rfl, rfl, q_t h2 q⟩⟩
/-- a price -/
def spPrice : Sp := fun vs H Q _ => ∃ i : Int, vs = [.int i] ∧ 0 ≤ i ∧ i ≤ 1000000000000000000 ∧ Q (.bl true) H
theorem c_is_price (g : Gs K mg) {f : Addr} {fd : FuncData} (D : C8.Def K mg "is_price" (top 14) f fd) (b : Binds K fd ["thing"] []) (cB : C8.Cal P w K mg base 2 "is_between" spBetween []) : C8.Cal P w K mg base 3 "is_price" spPrice [] := by
  refine C8.cal0 D b .nil (N := ["thing"]) (C8.fnScope_by (by decide +kernel)) (fun vs H Q E h => ?_) (fun cdv A outer s H vs Q E hr h => ?_)
  · obtain ⟨i, rfl, _⟩ := h
    rfl
  · obtain ⟨i, rfl, h1, h2, q⟩ := h
    refine ⟨_, pss_one (ps_ret (C8.pe_c cB hr (by decide) (by rfl) (pa_cons (pv 0) (pa_cons pe_int (pa_cons (C8.pe_gc (by rfl) g.mPrice) pa_nil))))), ?_⟩
    exact ⟨.int i, rfl, i, 0, 1000000000000000000, rfl, h1, h2, q⟩
/-- a comparison: a tuple of a gate and a price -/
def spComp (K : PySem.W.Frag) : Sp := fun vs H Q _ => ∃ (t : Addr) (g p n : Int), vs = [.ref t, .int n] ∧ H t = some (.tup [.int g, .int p]) ∧ 1 ≤ g ∧ g ≤ n - 1 ∧ 0 ≤ p ∧ p ≤ 1000000000000000000 ∧ Q (.bl true) H
theorem c_is_comparison (g : Gs K mg) {f : Addr} {fd : FuncData} (D : C8.Def K mg "is_comparison" (top 16) f fd) (b : Binds K fd ["thing", "places"] []) (cB : C8.Cal P w K mg base 2 "is_between" spBetween [])
    (cP : C8.Cal P w K mg base 3 "is_price" spPrice []) : C8.Cal P w K mg base 4 "is_comparison" (spComp K) [] := by
  refine C8.cal0 D b .nil (N := ["thing", "places"]) (C8.fnScope_by (by decide +kernel)) (fun vs H Q E h => ?_) (fun cdv A outer s H vs Q E hr h => ?_)
  · obtain ⟨t, x, p, n, rfl, _⟩ := h
    rfl
  · obtain ⟨t, x, p, n, rfl, ht, h1, h2, h3, h4, q⟩ := h
    refine ⟨_, pss_cons (ps_if (PW.pt (pw_or (pt_not (pt_val (pe_callB call_isi (by rfl) g.isi (by decide +kernel) (pa_cons (pv 0) (pa_cons (pe_bltn (v := .ty "tuple") (by rfl) g.tuple (by decide +kernel) rfl) pa_nil)))))
        (pw_or1 (pt_cmpR op_ne (pe_callB call_len_seq (by rfl) g.len PySem.boot_len (pa_cons (pv 0) pa_nil)) pe_int (nomark _)))))
        (pss_one (ps_ret pe_bl)) pss_nil)
      (pss_one (ps_ret (pe_and (C8.pe_c cB hr (by decide) (by rfl) (pa_cons (pe_ix ix_tup (pv 0) pe_int (fun _ _ => rfl)) (pa_cons pe_int (pa_cons (pe_op op_sub (pv 1) pe_int) pa_nil))))
        (pe_one (C8.pe_c cP hr (by decide) (by rfl) (pa_cons (pe_ix ix_tup (pv 0) pe_int (fun _ _ => rfl)) pa_nil)))))), ?_⟩
    refine ⟨.ref t, rfl, .ref t, .ty "tuple", _, _, true, rfl, .ty "tuple", .base (.tup ht), kit_ty (by decide +kernel), true, rfl, iteF ?_⟩
    refine ⟨.ref t, rfl, t, _, rfl, .inr (SqT.of ht), rfl, _, rfl, iteNS rfl ?_⟩
    refine ⟨.ref t, rfl, t, _, 0, .int x, rfl, rfl, SqT.of ht, rfl, .int n, rfl, n, 1, rfl, rfl, x, 1, n - 1, rfl, h1, h2, true, rfl, iteT ?_⟩
    exact ⟨.ref t, rfl, t, _, 1, .int p, rfl, rfl, SqT.of ht, rfl, p, rfl, h3, h4, q⟩
end
end K76
namespace K76
open L2 PySem PySem.Spec PyProof.Rows
theorem rep_add (n : Nat) : List.replicate n (V.bl true) ++ [V.bl true] = List.replicate (n + 1) (V.bl true) := by
  rw [List.replicate_succ']
theorem rep_map (n : Nat) : List.replicate n (V.bl true) = (List.replicate n true).map V.bl := by
  rw [List.map_replicate]
theorem rep_all (n : Nat) : (List.replicate n true).all id = true := by
  induction n with
  | zero => rfl
  | succ n ih =>
    rw [List.replicate_succ, List.all_cons, ih]
    rfl
/-- a sorted rearrangement of 0 .. n - 1 is 0 .. n - 1 -/
theorem sorted_range {n : Nat} {o : List Nat} {ns : List Int} (h : o.Perm (List.range n)) (p : ns.Perm (o.map fun (x : Nat) => (x : Int))) (q : ns.Pairwise (· ≤ ·)) : ns.map V.int = nv (List.range n) := by
  have e : ns = (List.range n).map fun (x : Nat) => (x : Int) := by
    refine List.Perm.eq_of_pairwise (le := (· ≤ ·)) (fun x y _ _ h1 h2 => Int.le_antisymm h1 h2) q ?_ (p.trans (h.map _))
    rw [List.pairwise_map]
    exact List.Pairwise.imp (fun {a b} (z : a < b) => by omega) List.pairwise_lt_range
  rw [e, nv_ints]
theorem perm_lt {n : Nat} {o : List Nat} (h : o.Perm (List.range n)) {i x : Nat} (e : o[i]? = some x) : x < n :=
  List.mem_range.mp (h.mem_iff.mp (List.mem_of_getElem? e))
section
variable {P : Program} {w : World} {base : Heap} {K : PySem.W.Frag} {mg : Str → Option Value}
/-- an order of so many places; what stood stands -/
def spOrder (K : PySem.W.Frag) : Sp := fun vs H Q _ => ∃ (a : Addr) (o : List Nat) (n : Nat), vs = [.ref a, iv n] ∧ H a = some (.lst (nv o)) ∧ n ≤ 12 ∧ o.Perm (List.range n) ∧ ∀ H', Same H H' → Q (.bl true) H'
theorem c_is_order (g : Gs K mg) {f : Addr} {fd : FuncData} (D : C8.Def K mg "is_order" (top 15) f fd) (b : Binds K fd ["thing", "places"] []) (cB : C8.Cal P w K mg base 2 "is_between" spBetween []) : C8.Cal P w K mg base 3 "is_order" (spOrder K) [] := by
  refine C8.cal0 D b .nil (N := ["thing", "places", "rank"]) (C8.fnScope_by (by decide +kernel)) (fun vs H Q E h => ?_) (fun cdv A outer s H vs Q E hr h => ?_)
  · obtain ⟨a, o, n, rfl, _⟩ := h
    rfl
  · obtain ⟨a, o, n, rfl, ha, hn, hp, q⟩ := h
    have nd : (["thing", "places", "rank"] : List Str).Nodup := by decide +kernel
    have hl : o.length = n := by rw [hp.length_eq, List.length_range]
    refine ⟨_, pss_cons (ps_if (PW.pt (pw_or (pt_not (pt_val (pe_callB call_isi (by rfl) g.isi (by decide +kernel) (pa_cons (pv 0) (pa_cons (pe_bltn (v := .ty "list") (by rfl) g.list (by decide +kernel) rfl) pa_nil)))))
        (pw_or1 (pt_cmpR op_ne (pe_callB call_len_seq (by rfl) g.len PySem.boot_len (pa_cons (pv 0) pa_nil)) (pv 1) (nomark _)))))
        (pss_one (ps_ret pe_bl)) pss_nil)
      (pss_one (ps_ret (pe_and (pe_callB (cr_all rfl) (by rfl) g.all (by decide +kernel) (pa_cons
          (pe_lc (own := [("rank", 2)]) (g := gName 2) (tt := tYes) rfl nd (pi_list (pv 0)) (blkOk_by (N := ["thing", "places", "rank"]) (sc := C8.fnScope (top 15)) (by decide +kernel))
            (fun _ _ _ _ _ => pg_name (i := 2) nd rfl (Or.inl rfl)) (fun _ _ _ _ _ => pts_nil)
            (fun _ _ _ _ _ => C8.pe_c cB hr (by decide) (by rfl) (pa_cons (pv 2) (pa_cons pe_int (pa_cons (pe_op op_sub (pv 1) pe_int) pa_nil))))) pa_nil))
        (pe_one (pe_cmpR (op_eqD hr.units) (pe_callB cr_sortedI (by rfl) g.sorted (by decide +kernel) (pa_cons (pv 0) pa_nil)) (pe_listRg rfl (by rfl) g.list (prg_1 (by rfl) g.range (pv 1))) (nomark _)))))), ?_⟩
    refine ⟨.ref a, rfl, .ref a, .ty "list", _, _, true, rfl, .ty "list", .base (.lst ha), kit_ty (by decide +kernel), true, rfl, iteF ?_⟩
    refine ⟨.ref a, rfl, a, _, rfl, .inl (SqL.of ha), iv n, rfl, rfl, _, rfl, iteNS (by rw [nv_len, hl]; rfl) ?_⟩
    refine ⟨.ref a, rfl, a, rfl, ⟨_, SqL.of ha⟩, fun D nD => lc_list (K := K) (a := a) (xs := nv o) (fun i H2 => Same H H2 ∧ H2 D = some (.lst (List.replicate i (V.bl true))))
      ⟨Same.new nD, upd_same⟩ (fun i H2 _ ⟨s2, _⟩ => SqL.of (s2.at ha)) (fun i x H2 hx ⟨s2, e2⟩ => ?_) (fun H2 ⟨s2, e2⟩ => ?_)⟩
    · obtain ⟨r, hr2, rfl⟩ := nv_of_get hx
      have hlt : r < n := perm_lt hp hr2
      refine ⟨rfl, .int r, rfl, iv n, rfl, n, 1, rfl, rfl, r, 0, (n : Int) - 1, rfl, by omega, by omega, ?_⟩
      have hi : i < o.length := (List.getElem?_eq_some_iff.mp hr2).1
      refine ⟨_, e2, small (k := 12) (by rw [List.length_replicate]; omega), Same.put s2 nD, ?_⟩
      rw [upd_same, rep_add]
    · rw [nv_len] at e2
      refine ⟨D, List.replicate o.length true, rfl, ?_, true, ?_, iteT ?_⟩
      · rw [← rep_map]
        exact SqL.of e2
      · rw [rep_all]
      refine ⟨.ref a, rfl, a, o.map fun (x : Nat) => (x : Int), rfl, ?_, fun ns p hpm hpw np => ?_⟩
      · rw [← nv_ints]
        exact SqL.of (s2.at ha)
      refine ⟨iv n, rfl, n, rfl, RgOk.of_le (by omega) (by omega) (by omega) (by omega), fun p2 np2 => ?_⟩
      have s4 := Same.upd (Same.upd s2 np (o := .lst (ns.map V.int))) np2 (o := .lst (rgV 0 n))
      refine ⟨dl (List.range n), dl (List.range n), dp_nv (SqL.of ?_), dp_nv (SqL.of ?_), dl_shaped _, dl_shaped _, ?_⟩
      · rw [upd_ne (ne_of_none upd_same np2), upd_same, sorted_range hp hpm hpw]
      · rw [upd_same, rgV_nv]
      · rw [dl_eqv, decide_eq_true rfl]
        exact q _ s4
end
end K76
namespace K76
open L2 PySem PySem.Spec PyProof.Rows
/-! ### the class Schedule -/
def sMeth (j : Nat) : Stmt := inClass (top 19) j
theorem kpr : ¬ (("rows" : Str) = "place_count") := by decide +kernel
theorem krp : ¬ (("place_count" : Str) = "rows") := by decide +kernel
def flds (n : Nat) (r : Addr) : List (Str × V) := putF "rows" (.ref r) (putF "place_count" (iv n) [])
theorem flds_eq (n : Nat) (r : Addr) : flds n r = ([("place_count", iv n), ("rows", V.ref r)] : List (Str × V)) := by
  show (if ("place_count" : Str) = "rows" then [(("place_count" : Str), V.ref r)] else (("place_count" : Str), iv n) :: putF "rows" (V.ref r) []) = ([("place_count", iv n), ("rows", V.ref r)] : List (Str × V))
  rw [if_neg krp]
  all_goals rfl
theorem flds_rows (n : Nat) (r : Addr) : (flds n r).lookup ("rows" : Str) = some (.ref r) := by
  unfold flds
  rw [lookup_putF, if_pos rfl]
theorem flds_places (n : Nat) (r : Addr) : (flds n r).lookup ("place_count" : Str) = some (iv n) := by
  unfold flds
  rw [lookup_putF, if_neg krp, lookup_putF, if_pos rfl]
theorem flds_no (n : Nat) (r : Addr) {m : Str} (h1 : ¬ m = "rows") (h2 : ¬ m = "place_count") : (flds n r).lookup m = none := by
  unfold flds
  rw [lookup_putF, if_neg h1]; rw [lookup_putF, if_neg h2]
  all_goals rfl
/-- the comparisons' tuples: a gate each, price 1 -/
def Tps (H : Hp) (ts : List Addr) (gs : List Nat) : Prop := Paired (fun t g => H t = some (.tup [iv g, .int 1])) ts gs
theorem Tps.same {H H1 : Hp} (s : Same H H1) : ∀ {ts : List Addr} {gs : List Nat}, Tps H ts gs → Tps H1 ts gs
  | _, _, .nil => .nil
  | _, _, .cons h t => .cons (s.at h) (Tps.same s t)
theorem Tps.app {H : Hp} {t : Addr} {g : Nat} (ht : H t = some (.tup [iv g, .int 1])) : ∀ {ts : List Addr} {gs : List Nat}, Tps H ts gs → Tps H (ts ++ [t]) (gs ++ [g])
  | _, _, .nil => .cons ht .nil
  | _, _, .cons h r => .cons h (Tps.app ht r)
theorem Tps.cat {H : Hp} {us : List Addr} {ks : List Nat} (r : Tps H us ks) : ∀ {ts : List Addr} {gs : List Nat}, Tps H ts gs → Tps H (ts ++ us) (gs ++ ks)
  | _, _, .nil => r
  | _, _, .cons h t => .cons h (Tps.cat r t)
theorem Tps.len {H : Hp} {ts : List Addr} {gs : List Nat} (r : Tps H ts gs) : ts.length = gs.length := Paired.length r
theorem Tps.get {H : Hp} : ∀ {ts : List Addr} {gs : List Nat} {i : Nat} {t : Addr}, Tps H ts gs → ts[i]? = some t → ∃ g, gs[i]? = some g ∧ H t = some (.tup [iv g, .int 1])
  | _, _, _, _, .nil, e => absurd e (by simp)
  | _, _, 0, _, .cons h t, e => ⟨_, rfl, by
      have e' := Option.some.inj e
      rw [← e']
      exact h⟩
  | _, _, i + 1, _, .cons h t, e => Tps.get (i := i) t e
theorem refs_get {ts : List Addr} {i : Nat} {v : V} (h : (ts.map V.ref)[i]? = some v) : ∃ t, ts[i]? = some t ∧ v = .ref t := by
  rw [List.getElem?_map] at h
  cases e : ts[i]? with
  | none =>
    rw [e] at h
    cases h
  | some x =>
    rw [e] at h
    exact ⟨x, rfl, (Option.some.inj h).symm⟩
def okG (n : Nat) (gs : List Nat) : Prop := (1 ≤ n ∧ n ≤ 12) ∧ (∀ g ∈ gs, 1 ≤ g ∧ g < n) ∧ gs.length ≤ 400
/-- a Schedule stands at p -/
def Sch (C : Addr) (H : Hp) (p : Addr) (n : Nat) (gs : List Nat) : Prop :=
  ∃ (dx r : Addr) (ts : List Addr), H p = some (.ins C dx (flds n r)) ∧ H r = some (.lst (ts.map V.ref)) ∧ Tps H ts gs ∧ okG n gs
theorem Sch.same {C : Addr} {H H1 : Hp} {p : Addr} {n : Nat} {gs : List Nat} (s : Same H H1) : Sch C H p n gs → Sch C H1 p n gs := fun ⟨dx, r, ts, h1, h2, h3, h4⟩ => ⟨dx, r, ts, s.at h1, s.at h2, h3.same s, h4⟩
/-- what the walk asks of the class as the top has made it -/
structure ST (K : PySem.W.Frag) (mg : Str → Option Value) (C : Addr) : Prop where
  cl : Cls K C
  nP : NoAttr K C "place_count"
  nR : NoAttr K C "rows"
  mgC : mg "Schedule" = some (.ref C)
section
variable {P : Program} {w : World} {K : PySem.W.Frag} {mg : Str → Option Value} {base : Heap} {C : Addr}
/-- __init__: the fields are laid, a new list holds the comparisons -/
def spInit (C : Addr) : Sp := fun vs H Q _ => ∃ (p dx c : Addr) (n : Nat) (ts : List Addr) (gs : List Nat), vs = [.ref p, iv n, .ref c] ∧ H p = some (.ins C dx []) ∧ H c = some (.lst (ts.map V.ref)) ∧ Tps H ts gs ∧ okG n gs ∧
  ∀ (r : Addr) (H' : Hp), H r = none → H' p = some (.ins C dx (flds n r)) → H' r = some (.lst (ts.map V.ref)) → (∀ b o, H b = some o → b ≠ p → H' b = some o) → Q .non H'
theorem f_init (g : Gs K mg) (T : ST K mg C) {f : Addr} {fd : FuncData} (F : C8.Fun K "__init__" "Schedule.__init__" (sMeth 0) f fd) (cB : C8.Cal P w K mg base 2 "is_between" spBetween [])
    (cC : C8.Cal P w K mg base 4 "is_comparison" (spComp K) []) : FnOk P w K mg base C8.CX0 5 f fd ["self", "places", "comparisons"] (spInit C) := by
  refine C8.fn0 F (N := ["self", "places", "comparisons", "at", "comparison"]) (C8.fnScope_by (by decide +kernel)) (fun vs H Q E h => ?_) (fun cdv A outer s H vs Q E hr h => ?_)
  · obtain ⟨p, dx, c, n, ts, gs, rfl, _⟩ := h
    rfl
  · obtain ⟨p, dx, c, n, ts, gs, rfl, hp, hc, ht, ⟨⟨n1, n2⟩, hg, hlen⟩, q⟩ := h
    have nd : (["self", "places", "comparisons", "at", "comparison"] : List Str).Nodup := by decide +kernel
    have tl := ht.len
    refine ⟨_, pss_cons (ps_if (pt_not (pt_val (C8.pe_c cB hr (by decide) (by rfl) (pa_cons (pv 1) (pa_cons pe_int (pa_cons (C8.pe_gc (by rfl) g.mPlaces) pa_nil)))))) pss_never pss_nil)
      (pss_cons (ps_if (PW.pt (pw_or (pt_not (pt_val (pe_callB call_isi (by rfl) g.isi (by decide +kernel) (pa_cons (pv 2) (pa_cons (pe_bltn (v := .ty "list") (by rfl) g.list (by decide +kernel) rfl) pa_nil)))))
        (pw_or1 (pt_cmpR op_gt (pe_callB call_len_seq (by rfl) g.len PySem.boot_len (pa_cons (pv 2) pa_nil)) (C8.pe_gc (by rfl) g.mComps) (nomark _))))) pss_never pss_nil)
      (pss_cons (ps_for PassesOwn.never rfl (pi_enum (by rfl) g.enum (pa_cons (pv 2) pa_nil)) (pg_tup rfl (pgs_cons (pg_name (i := 3) nd rfl (Or.inl rfl)) (pgs_cons (pg_name (i := 4) nd rfl (Or.inl rfl)) pgs_nil)))
        (pss_one (ps_if (pt_not (pt_val (C8.pe_c cC hr (by decide) (by rfl) (pa_cons (pv 4) (pa_cons (pv 1) pa_nil))))) pss_never pss_nil)))
      (pss_cons (ps_fld (pv 0) (pv 1) rfl)
      (pss_one (ps_fld (pv 0) (pe_callTy call_list_of (by rfl) g.list (by decide +kernel) (pa_cons (pv 2) pa_nil)) rfl))))), ?_⟩
    refine ⟨iv n, rfl, n, 1, 12, rfl, by omega, by omega, true, rfl, iteF ?_⟩
    refine ⟨.ref c, rfl, .ref c, .ty "list", _, _, true, rfl, .ty "list", .base (.lst hc), kit_ty (by decide +kernel), true, rfl, iteF ?_⟩
    refine ⟨.ref c, rfl, c, _, rfl, .inl (SqL.of hc), _, _, rfl, rfl, false, bl_f (by rw [List.length_map]; omega), iteF ?_⟩
    refine ⟨.ref c, rfl, c, ts.map V.ref, rfl, SqL.of hc, for_it (walk_enum (K := K) (a := c) (xs := ts.map V.ref)) (fun i σ H2 => ∃ v3 v4, σ = [some (.ref p), some (iv n), some (.ref c), v3, v4] ∧ Same H H2)
      ⟨none, none, rfl, Same.refl H⟩ (fun i σ H2 _ ⟨_, _, _, s2⟩ => SqL.of (s2.at hc)) (fun i x σ H2 H3 hi ⟨v3, v4, e, s2⟩ y => ?_) (fun σ H2 ⟨v3, v4, e, s2⟩ => ?_)⟩
    · subst e
      obtain ⟨t, x1, x2, rfl, nT, rfl, e1, e2⟩ := y
      cases (Option.some.inj e1)
      obtain ⟨u, hu, rfl⟩ := refs_get e2
      obtain ⟨k, hk, hut⟩ := ht.get hu
      have hk2 := hg k (List.mem_of_getElem? hk)
      have s3 := s2.upd nT (o := .tup [.int (i : Nat), .ref u])
      refine ⟨t, _, rfl, .inl (.inl upd_same), rfl, _, _, rfl, _, _, rfl, rfl, ?_⟩
      refine ⟨.ref u, rfl, iv n, rfl, u, k, 1, n, rfl, s3.at hut, by omega, by omega, by omega, by omega, true, rfl, iteF ?_⟩
      exact ⟨_, _, rfl, s3⟩
    · subst e
      refine ⟨iv n, rfl, .ref p, rfl, p, C, dx, _, rfl, s2.at hp, T.cl, T.nP, (by show 0 < 1000; decide), ?_⟩
      have hc' : (upd H2 p (.ins C dx (putF "place_count" (iv n) []))) c = some (.lst (ts.map V.ref)) := by
        rw [upd_ne (ne_of (s2.at hc) (s2.at hp) (by intro z; cases z))]
        exact s2.at hc
      refine ⟨.ref c, rfl, c, _, rfl, .inl (SqL.of hc'), fun r nr => ?_⟩
      have npr : p ≠ r := ne_of_none upd_same nr
      refine ⟨.ref p, rfl, p, C, dx, _, rfl, (by rw [upd_ne npr, upd_same]), T.cl, T.nR, (by show 1 < 1000; decide), ?_⟩
      rw [upd_ne npr.symm] at nr
      refine q r _ (s2.free nr) upd_same (by rw [upd_ne npr.symm, upd_same]) fun b o e hb => ?_
      rw [upd_ne hb, upd_ne (ne_of_none (s2.at e) nr), upd_ne hb]
      exact s2.at e
end
end K76
namespace K76
open L2 PySem PySem.Spec PyProof.Rows
/-! ### rules of my own -/
section
variable {X : Cx} {k : Nat} {C f : Addr} {fd : FuncData} {ps : List Str} {sp : Sp}
/-- len(o), o an instance of an own class whose __len__ is a def of the text -/
theorem call_lenO (hs : PySem.W.findIn X.K (.ref C) "__len__" = some (some (.ref f))) (hf : PySem.W.isFn X.K (.ref f) = true)
    (F : FnOk X.prog X.w X.K X.mg X.base C8.CX0 k f fd ps sp) (hr : Room (k + 1) X.A) (hb : Binds X.K fd ps []) :
    CallR X (.builtin "len") (fun xs H Q => ∃ a dx fs, xs = [.ref a] ∧ H a = some (.ins C dx fs) ∧ sp [.ref a] H (fun v H' => ∃ n : Nat, v = iv n ∧ n ≤ 1000000 ∧ Q (iv n) H') E0) := by
  intro pins s σ H args us Q I r h
  obtain ⟨a, dx, fs, rfl, ea, q⟩ := h
  obtain ⟨u, eu, ru⟩ := vals1 r
  subst eu
  have eu2 : u = Value.ref a := ru
  subst eu2
  obtain ⟨mA, O, rest⟩ := ins_get I.hok ea
  obtain ⟨od, J, _⟩ := O.look
  obtain ⟨m, Fr⟩ := I.fr
  refine PySem.W.len_K Fr I.ok.mod.kin J hs hf (wpAny_call ?_)
  have hl : ([Value.ref a] ++ ([] : List Value)).length = ps.length := by
    rw [← F.len _ _ _ _ q]
    rfl
  have e0 := I.env0.in1
  have hbb := hb s [.ref a] I.kIn hl
  refine codeAny_mono (F.run X.A.in1 X.stack s H ⟨[.ref a], []⟩ [.ref a] [.ref a] _ _ hr.in1 e0 hbb (.cons rfl .nil) q) fun r s' hq => ?_
  cases r with
  | error e => exact hq.elim
  | ok fl =>
    cases fl with
    | ret v =>
      obtain ⟨v', H', I2, rv, n, ev, hn, hQ⟩ := I.after hq
      subst ev
      obtain ⟨t, rfl⟩ := rv
      refine ⟨⟨by omega, by omega⟩, ?_⟩
      exact ⟨iv n, H', I2.tok _, ⟨_, rfl⟩, hQ⟩
    | next => exact False.elim hq
    | brk => exact False.elim hq
    | cont => exact False.elim hq
/-- a call of a local name that holds a class -/
def tMakeL (i : Nat) (C : Addr) (sp : Sp) (t : TA) : TE := fun σ H Q => σ[i]? = some (some (.ref C)) ∧ tMake C sp [] E0 t σ H Q
theorem pe_makeL {i : Nat} {x : Str} {p pos : Pos} {e : Expr} {es : List Expr} {t : TA} (M : Mk X.K C f) (F : FnOk X.prog X.w X.K X.mg X.base C8.CX0 k f fd ps sp) (hr : Room (k + 1) X.A) (hN : X.N[i]? = some x) (hv : Vis X.env.scope x) (hb : Binds X.K fd ps [])
    (ha : PA X (e :: es) t) (hdb : (x == ("__debug__" : Str)) = false := by decide) (hcd : (x == ("__classdict__" : Str)) = false := by decide)
    (he : starEach (e :: es) X.env = (false, eval e X.env) :: starEach es X.env := by rfl) (hpn : (backTo pos (starEach es X.env)).any (·.1) = false := by rfl) :
    PE X (.Call (.Name x p) (e :: es) [] pos) (tMakeL i C sp t) := by
  refine ⟨fun pins s σ H Q I hyp => ?_⟩
  have h := hyp
  obtain ⟨hs, ht⟩ := h
  refine wpAny_Call_Name_kw (thn ((pe_var (pos := p) hN hv hdb hcd).run pins s σ H (fun v H1 => v = .ref C ∧ H1 = H) I ⟨.ref C, hs, rfl, rfl⟩) fun u s1 hq => ?_)
  obtain ⟨v, H1, I1, r1, rfl, rfl⟩ := hq
  obtain rfl : u = Value.ref C := r1
  refine PySem.W.callWith_K (h₀ := X.base) I1.ok.mod.kin M.kp (thn (ha.run pos pins s1 σ _ _ I1 ht) fun us s2 hq => ?_) he hpn
  obtain ⟨vs, H2, I2, r, q⟩ := hq
  exact ⟨I2.kIn, run_make M F hr hb .nil C8.pass0 I2 r q⟩
/-- an item of a list, read by values (for xs[i] += e) -/
theorem pget_list : PGet X (fun o i H Q => ∃ (p : Addr) (xs : List V) (j : Nat) (v : V), o = .ref p ∧ i = iv j ∧ SqL X.K H p xs ∧ xs[j]? = some v ∧ xs.length ≤ 1000 ∧ Q v H) := by
  intro pins s σ H o i ov ivv Q I ro ri h
  obtain ⟨p, xs, j, v, rfl, rfl, hq, hx, hl, q⟩ := h
  obtain rfl : ov = Value.ref p := ro
  obtain ⟨t, rfl⟩ := ri
  obtain ⟨its, r, pl, _⟩ := I.list hq
  obtain ⟨u, hu, ru⟩ := r.get hx
  have hj : j < xs.length := (List.getElem?_eq_some_iff.mp hx).1
  refine wpAny_getItem_list (k := (j : Int)) pl.isList (Int.natCast_nonneg _) (by omega) ?_ ⟨v, H, I, ru, q⟩
  simpa using hu
end
end K76
namespace K76
open L2 PySem PySem.Spec PyProof.Rows
theorem flds_no_comps (n : Nat) (r : Addr) : (flds n r).lookup ("comparisons" : Str) = none := flds_no n r (by decide +kernel) (by decide +kernel)
theorem flds_no_gates (n : Nat) (r : Addr) : (flds n r).lookup ("gates" : Str) = none := flds_no n r (by decide +kernel) (by decide +kernel)
theorem flds_no_wr (n : Nat) (r : Addr) : (flds n r).lookup ("with_rows" : Str) = none := flds_no n r (by decide +kernel) (by decide +kernel)
theorem flds_no_joined (n : Nat) (r : Addr) : (flds n r).lookup ("joined" : Str) = none := flds_no n r (by decide +kernel) (by decide +kernel)
section
variable {P : Program} {w : World} {K : PySem.W.Frag} {mg : Str → Option Value} {base : Heap} {C : Addr}
/-- the number of places -/
def spPlaces (C : Addr) : Sp := fun vs H Q _ => ∃ (p : Addr) (n : Nat) (gs : List Nat), vs = [.ref p] ∧ Sch C H p n gs ∧ Q (iv n) H
theorem f_places (T : ST K mg C) {f : Addr} {fd : FuncData} (F : C8.Fun K "places" "Schedule.places" (sMeth 2) f fd) : FnOk P w K mg base C8.CX0 1 f fd ["self"] (spPlaces C) := by
  refine C8.fn0 F (N := ["self"]) (C8.fnScope_by (by decide +kernel)) (fun vs H Q E h => ?_) (fun cdv A outer s H vs Q E hr h => ?_)
  · obtain ⟨p, n, gs, rfl, _⟩ := h
    rfl
  · obtain ⟨p, n, gs, rfl, ⟨dx, r, ts, h1, h2, h3, h4⟩, q⟩ := h
    refine ⟨_, pss_one (ps_ret (pe_fld (pv 0) rfl)), ?_⟩
    exact ⟨.ref p, rfl, p, C, dx, _, _, rfl, h1, T.cl, T.nP, flds_places _ _, q⟩
/-- a new list of the comparisons -/
def spComps (C : Addr) : Sp := fun vs H Q _ => ∃ (p : Addr) (n : Nat) (gs : List Nat), vs = [.ref p] ∧ Sch C H p n gs ∧
  ∀ (l : Addr) (ts : List Addr) (H' : Hp), H l = none → Same H H' → H' l = some (.lst (ts.map V.ref)) → Tps H' ts gs → Q (.ref l) H'
theorem m_comparisons (g : Gs K mg) (T : ST K mg C) {f : Addr} {fd : FuncData} (F : C8.Fun K "comparisons" "Schedule.comparisons" (sMeth 3) f fd) (b : Binds K fd ["self"] []) (me : Meth K C "comparisons" f) :
    C8.Met P w K mg base 1 C "comparisons" (spComps C) [] := by
  refine C8.met0 T.cl me F b (N := ["self"]) (C8.fnScope_by (by decide +kernel)) (fun vs H Q E h => ?_) (fun cdv A outer s H vs Q E hr h => ?_)
  · obtain ⟨p, n, gs, rfl, _⟩ := h
    rfl
  · obtain ⟨p, n, gs, rfl, ⟨dx, r, ts, h1, h2, h3, h4⟩, q⟩ := h
    refine ⟨_, pss_one (ps_ret (pe_callTy call_list_of (by rfl) g.list (by decide +kernel) (pa_cons (pe_fld (pv 0) rfl) pa_nil))), ?_⟩
    refine ⟨.ref p, rfl, p, C, dx, _, _, rfl, h1, T.cl, T.nR, flds_rows _ _, r, _, rfl, .inl (SqL.of h2), fun l nl => ?_⟩
    exact q l ts _ nl (Same.new nl) upd_same (h3.same (Same.new nl))
/-- a new list of the gates -/
def spGates (C : Addr) : Sp := fun vs H Q _ => ∃ (p : Addr) (n : Nat) (gs : List Nat), vs = [.ref p] ∧ Sch C H p n gs ∧
  ∀ (l : Addr) (H' : Hp), H l = none → Same H H' → Grown H H' → H' l = some (.lst (nv gs)) → Q (.ref l) H'
theorem m_gates (T : ST K mg C) {f : Addr} {fd : FuncData} (F : C8.Fun K "gates" "Schedule.gates" (sMeth 4) f fd) (b : Binds K fd ["self"] []) (me : Meth K C "gates" f) :
    C8.Met P w K mg base 1 C "gates" (spGates C) [] := by
  refine C8.met0 T.cl me F b (N := ["self", "gate", "price"]) (C8.fnScope_by (by decide +kernel)) (fun vs H Q E h => ?_) (fun cdv A outer s H vs Q E hr h => ?_)
  · obtain ⟨p, n, gs, rfl, _⟩ := h
    rfl
  · obtain ⟨p, n, gs, rfl, ⟨dx, r, ts, h1, h2, h3, h4⟩, q⟩ := h
    have nd : (["self", "gate", "price"] : List Str).Nodup := by decide +kernel
    have tl := h3.len
    refine ⟨_, pss_one (ps_ret (pe_lc (own := [("gate", 1), ("price", 2)]) (g := gTup K 2 (gCons (gName 1) (gCons (gName 2) gNil))) (tt := tYes) rfl nd (pi_list (pe_fld (pv 0) rfl)) (blkOk_by (N := ["self", "gate", "price"]) (sc := C8.fnScope (sMeth 4)) (by decide +kernel))
      (fun _ _ _ _ _ => pg_tup rfl (pgs_cons (pg_name (i := 1) nd rfl (Or.inl rfl)) (pgs_cons (pg_name (i := 2) nd rfl (Or.inl rfl)) pgs_nil))) (fun _ _ _ _ _ => pts_nil) (fun _ _ _ _ _ => pv 1))), ?_⟩
    refine ⟨.ref p, rfl, p, C, dx, _, _, rfl, h1, T.cl, T.nR, flds_rows _ _, r, rfl, ⟨_, SqL.of h2⟩, fun D nD => lc_list (K := K) (a := r) (xs := ts.map V.ref) (fun i H2 => Same H H2 ∧ Grown H H2 ∧ H2 D = some (.lst (nv (gs.take i))))
      ⟨Same.new nD, (Grown.refl H).upd True.intro, upd_same⟩ (fun i H2 _ hP => SqL.of (hP.1.at h2)) (fun i x H2 hx hP => ?_) (fun H2 hP => ?_)⟩
    · obtain ⟨s2, g2, e2⟩ := hP
      obtain ⟨t, ht, rfl⟩ := refs_get hx
      obtain ⟨k, hk, hut⟩ := h3.get ht
      refine ⟨t, _, rfl, .inl (.inl (s2.at hut)), rfl, _, _, rfl, _, _, rfl, rfl, rfl, ?_⟩
      refine ⟨_, rfl, _, e2, ?_, s2.put nD, g2.upd True.intro, ?_⟩
      · rw [nv_len, List.length_take]
        exact small (k := 400) (by have := h4.2.2; omega)
      · rw [upd_same, List.take_add_one, hk, nv_app]
        rfl
    · obtain ⟨s2, g2, e2⟩ := hP
      have e3 : gs.take (ts.map V.ref).length = gs := List.take_of_length_le (by rw [List.length_map]; omega)
      rw [e3] at e2
      exact q D H2 nD s2 g2 e2
/-- a new Schedule with these comparisons -/
def spWith (C : Addr) : Sp := fun vs H Q _ => ∃ (p c : Addr) (n : Nat) (g0 : List Nat) (ts : List Addr) (gs : List Nat), vs = [.ref p, .ref c] ∧ Sch C H p n g0 ∧ H c = some (.lst (ts.map V.ref)) ∧ Tps H ts gs ∧ okG n gs ∧
  ∀ (x : Addr) (H' : Hp), Same H H' → Sch C H' x n gs → Q (.ref x) H'
theorem sch_made {H H1 : Hp} {x dx r : Addr} {n : Nat} {ts : List Addr} {gs : List Nat} (nx : H x = none) (nd : H dx = none) (ht : Tps H ts gs) (ok : okG n gs)
    (e1 : H1 x = some (.ins C dx (flds n r))) (e2 : H1 r = some (.lst (ts.map V.ref))) (k : ∀ b o, (upd (upd H dx (.own x)) x (.ins C dx [])) b = some o → b ≠ x → H1 b = some o) : Same H H1 ∧ Sch C H1 x n gs := by
  have s := Same.made nx nd k
  exact ⟨s, dx, r, ts, e1, e2, ht.same s, ok⟩
theorem m_with_rows (g : Gs K mg) (T : ST K mg C) {f : Addr} {fd : FuncData} (F : C8.Fun K "with_rows" "Schedule.with_rows" (sMeth 6) f fd) (b : Binds K fd ["self", "rows"] []) (me : Meth K C "with_rows" f)
    (mk : C8.Mak P w K mg base 5 "Schedule" C (spInit C) []) : C8.Met P w K mg base 7 C "with_rows" (spWith C) [] := by
  refine C8.met0 T.cl me F b (N := ["self", "rows"]) (C8.fnScope_by (by decide +kernel)) (fun vs H Q E h => ?_) (fun cdv A outer s H vs Q E hr h => ?_)
  · obtain ⟨p, c, n, g0, ts, gs, rfl, _⟩ := h
    rfl
  · obtain ⟨p, c, n, g0, ts, gs, rfl, ⟨dx, r, t0, h1, h2, h3, h4⟩, hc, ht, ok, q⟩ := h
    have tl := ht.len
    refine ⟨_, pss_cons (ps_if (pt_cmpR op_gt (pe_callB call_len_seq (by rfl) g.len PySem.boot_len (pa_cons (pv 1) pa_nil)) (C8.pe_gc (by rfl) g.mComps) (nomark _)) pss_never pss_nil)
      (pss_one (ps_ret (C8.pe_mk mk hr (by decide) (by rfl) (pa_cons (pe_fld (pv 0) rfl) (pa_cons (pv 1) pa_nil))))), ?_⟩
    refine ⟨.ref c, rfl, c, _, rfl, .inl (SqL.of hc), _, _, rfl, rfl, false, bl_f (by have := ok.2.2; rw [List.length_map]; omega), iteF ?_⟩
    refine ⟨.ref p, rfl, p, C, dx, _, _, rfl, h1, T.cl, T.nP, flds_places _ _, .ref c, rfl, fun x ex nx nex ne => ?_⟩
    have sN : Same H (upd (upd H ex (.own x)) x (.ins C ex [])) := (Same.new nex).put nx
    refine ⟨x, ex, c, n, ts, gs, rfl, upd_same, sN.at hc, ht.same sN, ok, fun rr H1 nr e1 e2 kk => ⟨rfl, ?_⟩⟩
    obtain ⟨s1, S1⟩ := sch_made nx nex ht ok e1 e2 kk
    exact q x H1 s1 S1
/-- two schedules joined -/
def spJoin (C : Addr) : Sp := fun vs H Q _ => ∃ (p o : Addr) (n : Nat) (gs ks : List Nat), vs = [.ref p, .ref o] ∧ Sch C H p n gs ∧ Sch C H o n ks ∧ gs.length + ks.length ≤ 400 ∧
  ∀ (x : Addr) (H' : Hp), Same H H' → Sch C H' x n (gs ++ ks) → Q (.ref x) H'
theorem m_joined (T : ST K mg C) {f : Addr} {fd : FuncData} (F : C8.Fun K "joined" "Schedule.joined" (sMeth 11) f fd) (b : Binds K fd ["self", "other"] []) (me : Meth K C "joined" f)
    (cW : C8.Met P w K mg base 7 C "with_rows" (spWith C) []) : C8.Met P w K mg base 8 C "joined" (spJoin C) [] := by
  refine C8.met0 T.cl me F b (N := ["self", "other"]) (C8.fnScope_by (by decide +kernel)) (fun vs H Q E h => ?_) (fun cdv A outer s H vs Q E hr h => ?_)
  · obtain ⟨p, o, n, gs, ks, rfl, _⟩ := h
    rfl
  · obtain ⟨p, o, n, gs, ks, rfl, S1, S2, hl, q⟩ := h
    obtain ⟨dx, r, ts, h1, h2, h3, h4⟩ := id S1
    obtain ⟨dx', r', ts', k1, k2, k3, k4⟩ := id S2
    have tl := h3.len
    have tl' := k3.len
    refine ⟨_, pss_cons (ps_if (pt_cmpR op_ne (pe_fld (pv 1) rfl) (pe_fld (pv 0) rfl) (nomark _)) pss_never pss_nil)
      (pss_one (ps_ret (C8.pe_mt cW hr (by decide) (pv 0) (pa_cons (pe_op op_cat (pe_fld (pv 0) rfl) (pe_fld (pv 1) rfl)) pa_nil)))), ?_⟩
    refine ⟨.ref o, rfl, o, C, dx', _, _, rfl, k1, T.cl, T.nP, flds_places _ _, .ref p, rfl, p, C, dx, _, _, rfl, h1, T.cl, T.nP, flds_places _ _, rfl, _, rfl, iteNS rfl ?_⟩
    refine ⟨.ref p, rfl, p, dx, _, rfl, h1, flds_no_wr _ _, .ref p, rfl, p, C, dx, _, _, rfl, h1, T.cl, T.nR, flds_rows _ _, .ref o, rfl, o, C, dx', _, _, rfl, k1, T.cl, T.nR, flds_rows _ _,
      r, r', _, _, rfl, rfl, h2, k2, small' (k := 400) (by rw [List.length_map, List.length_map]; omega), fun c nc => ?_⟩
    have sC : Same H (upd H c (.lst (ts.map V.ref ++ ts'.map V.ref))) := Same.new nc
    refine ⟨p, c, n, gs, ts ++ ts', gs ++ ks, rfl, Sch.same sC S1, ?_, (k3.same sC).cat (h3.same sC), ⟨h4.1, fun x hx => ?_, by rw [List.length_append]; exact hl⟩, fun x H' s' S' => q x H' (sC.trans s') S'⟩
    · rw [upd_same, List.map_append]
    · rcases List.mem_append.mp hx with z | z
      · exact h4.2.1 x z
      · exact k4.2.1 x z
/-- the number of comparisons -/
def spLen (C : Addr) : Sp := fun vs H Q _ => ∃ (p : Addr) (n : Nat) (gs : List Nat), vs = [.ref p] ∧ Sch C H p n gs ∧ Q (iv gs.length) H
theorem f_len (g : Gs K mg) (T : ST K mg C) {f : Addr} {fd : FuncData} (F : C8.Fun K "__len__" "Schedule.__len__" (sMeth 16) f fd) : FnOk P w K mg base C8.CX0 1 f fd ["self"] (spLen C) := by
  refine C8.fn0 F (N := ["self"]) (C8.fnScope_by (by decide +kernel)) (fun vs H Q E h => ?_) (fun cdv A outer s H vs Q E hr h => ?_)
  · obtain ⟨p, n, gs, rfl, _⟩ := h
    rfl
  · obtain ⟨p, n, gs, rfl, ⟨dx, r, ts, h1, h2, h3, h4⟩, q⟩ := h
    have tl := h3.len
    refine ⟨_, pss_one (ps_ret (pe_callB call_len_seq (by rfl) g.len PySem.boot_len (pa_cons (pe_fld (pv 0) rfl) pa_nil))), ?_⟩
    refine ⟨.ref p, rfl, p, C, dx, _, _, rfl, h1, T.cl, T.nR, flds_rows _ _, r, _, rfl, .inl (SqL.of h2), ?_⟩
    show Q (V.int ((ts.map V.ref).length : Nat)) H
    rw [List.length_map, tl]
    exact q
/-- a Schedule of these gates, all of price 1 -/
def spOfG (C : Addr) : Sp := fun vs H Q _ => ∃ (a : Addr) (n : Nat) (gs : List Nat), vs = [.ref C, iv n, .ref a, .int 1] ∧ SqL K H a (nv gs) ∧ okG n gs ∧
  ∀ (x : Addr) (H' : Hp), Same H H' → Sch C H' x n gs → Q (.ref x) H'
end
end K76
namespace K76
open L2 PySem PySem.Spec PyProof.Rows
theorem fun_of_funD {K : PySem.W.Frag} {x qual : Str} {st : Stmt} {dvs : List V} {kws : List (Str × V)} {f : Addr} {fd : FuncData} (F : FunD K x qual (C8.fnArgs st) (C8.fnBody st) (C8.fnScope st) dvs kws f fd) : C8.Fun K x qual st f fd := by
  obtain ⟨oc, od, dV, kV, doc, pm, an, cdv, ct, osl, h1, h2, h3, _⟩ := F.ex
  exact ⟨oc, od, dV, kV, doc, pm, an, cdv, ct, osl, h1, h2, h3⟩
section
variable {P : Program} {w : World} {K : PySem.W.Frag} {mg : Str → Option Value} {base : Heap} {C : Addr}
theorem f_of_gates {f fI : Addr} {fd fdI : FuncData} (F : C8.Fun K "of_gates" "Schedule.of_gates" (sMeth 1) f fd)
    (M : Mk K C fI) (FI : FnOk P w K mg base C8.CX0 5 fI fdI ["self", "places", "comparisons"] (spInit C)) (bI : Binds K fdI ["self", "places", "comparisons"] []) :
    FnOk P w K mg base C8.CX0 7 f fd ["cls", "places", "gates", "price"] (spOfG (K := K) C) := by
  refine C8.fn0 F (N := ["cls", "places", "gates", "price", "gate"]) (C8.fnScope_by (by decide +kernel)) (fun vs H Q E h => ?_) (fun cdv A outer s H vs Q E hr h => ?_)
  · obtain ⟨a, n, gs, rfl, _⟩ := h
    rfl
  · obtain ⟨a, n, gs, rfl, ha, ok, q⟩ := h
    have nd : (["cls", "places", "gates", "price", "gate"] : List Str).Nodup := by decide +kernel
    refine ⟨_, pss_one (ps_ret (pe_makeL (i := 0) M FI hr rfl (.inl rfl) bI (pa_cons (pv 1) (pa_cons
      (pe_lc (own := [("gate", 4)]) (g := gName 4) (tt := tYes) rfl nd (pi_list (pv 2)) (blkOk_by (N := ["cls", "places", "gates", "price", "gate"]) (sc := C8.fnScope (sMeth 1)) (by decide +kernel))
        (fun _ _ _ _ _ => pg_name (i := 4) nd rfl (Or.inl rfl)) (fun _ _ _ _ _ => pts_nil) (fun _ _ _ _ _ => pe_tup (pa_cons (pv 4) (pa_cons (pv 3) pa_nil)))) pa_nil)))), ?_⟩
    refine ⟨rfl, iv n, rfl, .ref a, rfl, a, rfl, ⟨_, ha⟩, fun D nD => lc_list (K := K) (a := a) (xs := nv gs) (fun i H2 => Same H H2 ∧ ∃ ts, H2 D = some (.lst (ts.map V.ref)) ∧ Tps H2 ts (gs.take i))
      ⟨Same.new nD, [], upd_same, .nil⟩ (fun i H2 _ hP => hP.1.seq ha) (fun i x H2 hx hP => ?_) (fun H2 hP => ?_)⟩
    · obtain ⟨s2, ts, e2, t2⟩ := hP
      obtain ⟨k, hk, rfl⟩ := nv_of_get hx
      refine ⟨rfl, iv k, rfl, .int 1, rfl, (by show 2 ≤ sizeLine; decide), fun t nt => ?_⟩
      have s3 : Same H2 (upd H2 t (.tup [iv k, .int 1])) := Same.new nt
      have tl := t2.len
      refine ⟨ts.map V.ref, s3.at e2, ?_, (s2.trans s3).put nD, ts ++ [t], ?_, ?_⟩
      · rw [List.length_map, tl, List.length_take]
        exact small (k := 400) (by have := ok.2.2; omega)
      · rw [upd_same, List.map_append]
        rfl
      · rw [List.take_add_one, hk]
        have hD : ∀ b o, b ≠ D → (upd H2 t (.tup [iv k, .int 1])) b = some o → (upd (upd H2 t (.tup [iv k, .int 1])) D (.lst (ts.map V.ref ++ [.ref t]))) b = some o := fun b o hb e => by
          rw [upd_ne hb]
          exact e
        have go : ∀ {us : List Addr} {ks : List Nat}, Tps (upd H2 t (.tup [iv k, .int 1])) us ks → Tps (upd (upd H2 t (.tup [iv k, .int 1])) D (.lst (ts.map V.ref ++ [.ref t]))) us ks := by
          intro us ks h
          induction h with
          | nil => exact .nil
          | cons h1 h2 ih => exact .cons (hD _ _ (ne_of h1 (s3.at e2) (by intro z; cases z)) h1) ih
        exact go (Tps.app upd_same (t2.same s3))
    · obtain ⟨s2, ts, e2, t2⟩ := hP
      rw [nv_len, List.take_length] at t2
      intro x dx nx nex ne
      have sN : Same H2 (upd (upd H2 dx (.own x)) x (.ins C dx [])) := (Same.new nex).put nx
      refine ⟨x, dx, D, n, ts, gs, rfl, upd_same, sN.at e2, t2.same sN, ok, fun rr H1 nr e1 e3 kk => ⟨rfl, ?_⟩⟩
      obtain ⟨s1, S1⟩ := sch_made nx nex t2 ok e1 e3 kk
      exact q x H1 (s2.trans s1) S1
/-- Schedule.of_gates(n, gates): by values, the price filled in -/
def spOf (K : PySem.W.Frag) (C : Addr) : Sp := fun vs H Q _ => ∃ (a : Addr) (n : Nat) (gs : List Nat), vs = [.ref C, iv n, .ref a] ∧ SqL K H a (nv gs) ∧ okG n gs ∧
  ∀ (x : Addr) (H' : Hp), Same H H' → Sch C H' x n gs → Q (.ref x) H'
theorem r_of_gates {f fI : Addr} {fd fdI : FuncData} (F : FunD K "of_gates" "Schedule.of_gates" (C8.fnArgs (sMeth 1)) (C8.fnBody (sMeth 1)) (C8.fnScope (sMeth 1)) [] [("price", .int 1)] f fd)
    (M : Mk K C fI) (FI : FnOk P w K mg base C8.CX0 5 fI fdI ["self", "places", "comparisons"] (spInit C)) (bI : Binds K fdI ["self", "places", "comparisons"] []) :
    FnR P w K mg base C8.CX0 7 f (spOf K C) := by
  obtain ⟨ds, hd, hb⟩ := F.binds0 (ps := ["cls", "places", "gates", "price"]) 3 (by simp) rfl (fun D doc pm an cdv ct us ks hu hk => by
    match us, ks, hu, hk with
    | [u1, u2, u3], [k1], _, _ => exact ⟨_, _, _, _, _, _, rfl, rfl, rfl⟩)
  refine (FnOk.raw (f_of_gates (fun_of_funD F) M FI bI) hb hd).imp fun vs H Q E h => ?_
  obtain ⟨a, n, gs, rfl, h1, h2, h3⟩ := h
  exact ⟨a, n, gs, rfl, h1, h2, h3⟩
end
end K76
namespace K76
open L2 PySem PySem.Spec PyProof.Rows
theorem ix_nat {n i : Nat} {z : Int} (e : z = (i : Int)) (h : i < n) : ixN n z = some i := by
  unfold ixN
  rw [e, if_pos (by omega), if_pos (by omega)]
  rfl
theorem at_nv {l : List Nat} {z : Int} {j : Nat} (e : z = (j : Int)) (h : j < l.length) : atI (nv l) z = some (iv (atN l j)) := at_of e (nv_at h)
/-- an exchange of the two items beside a gate -/
theorem nv_swp {o : List Nat} {g : Nat} : ((nv o).set (g - 1) (iv (atN o g))).set g (iv (atN o (g - 1))) = nv (swp o g) := by
  unfold swp
  rw [nv_set, nv_set]
section
variable {P : Program} {w : World} {K : PySem.W.Frag} {mg : Str → Option Value} {base : Heap} {C : Addr}
/-- is_exchanged -/
def spBad (K : PySem.W.Frag) : Sp := fun vs H Q _ => ∃ (a : Addr) (o : List Nat) (g : Nat), vs = [.ref a, iv g] ∧ H a = some (.lst (nv o)) ∧ 1 ≤ g ∧ g < o.length ∧ Q (.bl (bad o g)) H
theorem c_is_exchanged {f : Addr} {fd : FuncData} (D : C8.Def K mg "is_exchanged" (top 22) f fd) (b : Binds K fd ["order", "gate"] []) : C8.Cal P w K mg base 1 "is_exchanged" (spBad K) [] := by
  refine C8.cal0 D b .nil (N := ["order", "gate"]) (C8.fnScope_by (by decide +kernel)) (fun vs H Q E h => ?_) (fun cdv A outer s H vs Q E hr h => ?_)
  · obtain ⟨a, o, g, rfl, _⟩ := h
    rfl
  · obtain ⟨a, o, g, rfl, ha, h1, h2, q⟩ := h
    refine ⟨_, pss_one (ps_ret (pe_cmpR op_gt (pe_ix ix_list (pv 0) (pe_op op_sub (pv 1) pe_int) (fun _ _ => rfl)) (pe_ix ix_list (pv 0) (pv 1) (fun _ _ => rfl)) (nomark _))), ?_⟩
    refine ⟨.ref a, rfl, iv g, rfl, g, 1, rfl, rfl, a, _, _, _, rfl, rfl, SqL.of ha, at_nv (j := g - 1) (by omega) (by omega), .ref a, rfl, iv g, rfl, a, _, _, _, rfl, rfl, SqL.of ha, at_nv (j := g) rfl h2, _, _, rfl, rfl, ?_⟩
    have e : decide ((atN o g : Int) < (atN o (g - 1) : Int)) = bad o g := by
      unfold bad
      by_cases z : atN o g < atN o (g - 1)
      · rw [decide_eq_true z, decide_eq_true (by omega)]
      · rw [decide_eq_false z, decide_eq_false (by omega)]
    show Q (.bl (decide ((atN o g : Int) < (atN o (g - 1) : Int)))) H
    rw [e]
    exact q
/-- exchange -/
def spSwap (K : PySem.W.Frag) : Sp := fun vs H Q _ => ∃ (a : Addr) (o : List Nat) (g : Nat), vs = [.ref a, iv g] ∧ H a = some (.lst (nv o)) ∧ 1 ≤ g ∧ g < o.length ∧
  ∀ H', H' a = some (.lst (nv (swp o g))) → (∀ b u, b ≠ a → H b = some u → H' b = some u) → Grown H H' → Q .non H'
theorem c_exchange {f : Addr} {fd : FuncData} (D : C8.Def K mg "exchange" (top 23) f fd) (b : Binds K fd ["order", "gate"] []) : C8.Cal P w K mg base 1 "exchange" (spSwap K) [] := by
  refine C8.cal0 D b .nil (N := ["order", "gate"]) (C8.fnScope_by (by decide +kernel)) (fun vs H Q E h => ?_) (fun cdv A outer s H vs Q E hr h => ?_)
  · obtain ⟨a, o, g, rfl, _⟩ := h
    rfl
  · obtain ⟨a, o, g, rfl, ha, h1, h2, q⟩ := h
    refine ⟨_, pss_one (ps_asg (pe_tup (pa_cons (pe_ix ix_list (pv 0) (pv 1) (fun _ _ => rfl)) (pa_cons (pe_ix ix_list (pv 0) (pe_op op_sub (pv 1) pe_int) (fun _ _ => rfl)) pa_nil)))
      (pg_tup rfl (pgs_cons (pg_sub (pv 0) (pe_op op_sub (pv 1) pe_int) set_list) (pgs_cons (pg_sub (pv 0) (pv 1) set_list) pgs_nil)))), ?_⟩
    refine ⟨.ref a, rfl, iv g, rfl, a, _, _, _, rfl, rfl, SqL.of ha, at_nv (j := g) rfl h2, .ref a, rfl, iv g, rfl, g, 1, rfl, rfl, a, _, _, _, rfl, rfl, SqL.of ha, at_nv (j := g - 1) (by omega) (by omega), (by show 2 ≤ sizeLine; decide), fun t nt => ?_⟩
    have sT : Same H (upd H t (.tup [iv (atN o g), iv (atN o (g - 1))])) := Same.new nt
    have e1 : (upd (upd H t (.tup [iv (atN o g), iv (atN o (g - 1))])) a (.lst ((nv o).set (g - 1) (iv (atN o g))))) a = some (.lst ((nv o).set (g - 1) (iv (atN o g)))) := upd_same
    refine ⟨t, _, rfl, SqT.of upd_same, rfl, _, _, rfl, .ref a, rfl, iv g, rfl, g, 1, rfl, rfl, a, _, _, g - 1, rfl, rfl, sT.at ha, ix_nat (by omega) (by rw [nv_len]; omega), ?_⟩
    refine ⟨_, _, rfl, .ref a, rfl, iv g, rfl, a, _, _, g, rfl, rfl, e1, ix_nat rfl (by rw [List.length_set, nv_len]; exact h2), rfl, ?_⟩
    refine q _ (by rw [upd_same, nv_swp]) (fun b u hb e => ?_) ?_
    · rw [upd_ne hb, upd_ne hb]
      exact sT.at e
    · refine Grown.upd (Grown.upd (Grown.upd (Grown.refl H) ?_) ?_) ?_ <;> exact True.intro
end
end K76
namespace K76
open L2 PySem PySem.Spec PyProof.Rows
/-- a test that the proof never comes to -/
theorem pt_no {X : Cx} {e : Expr} : PT X e (fun _ _ _ => False) := ⟨fun _ _ _ _ _ _ h => h.elim⟩
/-- the class's further facts: its property, its methods -/
structure SP (P : Program) (w : World) (K : PySem.W.Frag) (mg : Str → Option Value) (base : Heap) (C : Addr) : Prop where
  T : ST K mg C
  isC : C8.InsC K C
  pl : ∃ (pp pg : Addr) (fd : FuncData), PropOf K C "places" pp pg ∧ FnOk P w K mg base C8.CX0 1 pg fd ["self"] (spPlaces C) ∧ Binds K fd ["self"] []
section
variable {P : Program} {w : World} {K : PySem.W.Frag} {mg : Str → Option Value} {base : Heap} {C : Addr}
/-- need_play -/
def spNeed (K : PySem.W.Frag) (C : Addr) : Sp := fun vs H Q _ => ∃ (p a m : Addr) (n : Nat) (gs o : List Nat), vs = [.ref p, .ref a, .ref m] ∧ Sch C H p n gs ∧ H a = some (.lst (nv o)) ∧ o.Perm (List.range n) ∧ SqT K H m [] ∧
  ∀ H', Same H H' → Q .non H'
theorem c_need_play (g : Gs K mg) (S : SP P w K mg base C) {f : Addr} {fd : FuncData} (D : C8.Def K mg "need_play" (top 21) f fd) (b : Binds K fd ["schedule", "order", "missed"] [])
    (cO : C8.Cal P w K mg base 3 "is_order" (spOrder K) []) : C8.Cal P w K mg base 4 "need_play" (spNeed K C) [] := by
  refine C8.cal0 D b .nil (N := ["schedule", "order", "missed"]) (C8.fnScope_by (by decide +kernel)) (fun vs H Q E h => ?_) (fun cdv A outer s H vs Q E hr h => ?_)
  · obtain ⟨p, a, m, n, gs, o, rfl, _⟩ := h
    rfl
  · obtain ⟨p, a, m, n, gs, o, rfl, S1, ha, hp, hm, q⟩ := h
    obtain ⟨pp, pg, fdp, hP, FP, bP⟩ := S.pl
    obtain ⟨dx, r, ts, h1, h2, h3, h4⟩ := id S1
    refine ⟨_, pss_cons (ps_if (pt_not (pt_val (pe_callB (C8.call_isC S.isC) (by rfl) g.isi (by decide +kernel) (pa_cons (pv 0) (pa_cons (pe_glob (v := .ref C) (by rfl) S.T.mgC rfl) pa_nil))))) pss_never pss_nil)
      (pss_cons (ps_if (pt_not (pt_val (C8.pe_c cO hr (by decide) (by rfl) (pa_cons (pv 1) (pa_cons (pe_prop (E := E0) (pv 0) S.T.cl hP FP (hr.mono (by decide)) bP .nil C8.pass0 (by rfl)) pa_nil))))) pss_never pss_nil)
      (pss_one (ps_if (PW.pt (pw_and (pt_cmpR (op_neD hr.units) (pv 2) (pe_tup pa_nil) (nomark _)) (pw_and1 pt_no))) pss_never pss_nil))), ?_⟩
    refine ⟨.ref p, rfl, p, dx, _, rfl, h1, true, rfl, iteF ?_⟩
    refine ⟨.ref a, rfl, .ref p, rfl, p, dx, _, rfl, h1, p, n, gs, rfl, S1, a, o, n, rfl, ha, h4.1.2, hp, fun H1 s1 => ⟨true, rfl, iteF ?_⟩⟩
    refine ⟨.ref m, rfl, Nat.zero_le _, fun t nt => ?_⟩
    have sT : Same H1 (upd H1 t (.tup [])) := Same.new nt
    have hm1 : SqT K (upd H1 t (.tup [])) m [] := by
      rcases hm with (z | ⟨ob, z⟩) | z
      · exact .inl (.inl (sT.at (s1.at z)))
      · exact .inl (.inr ⟨ob, sT.at (s1.at z)⟩)
      · exact .inr z
    refine ⟨.tuple [], .tuple [], .tup hm1 .nil, .tup (SqT.of upd_same) .nil, by decide +kernel, by decide +kernel, false, by decide +kernel, iteF (iteF ?_)⟩
    exact q _ (s1.trans sT)
end
end K76
namespace K76
open PySem PySem.Spec PyProof.Rows L2 GenW
/-! ### a generator's body, woken from any state -/
/-- the first n objects of a heap -/
def cutH (h : Heap) (n : Nat) : Heap := { h with objs := h.objs.extract 0 n }
theorem cutH_size {h : Heap} {n : Nat} (hn : n ≤ h.objs.size) : (cutH h n).objs.size = n := by
  unfold cutH
  simp only [Array.size_extract]
  omega
theorem cutH_get {h : Heap} {n b : Nat} (hb : b < n) : (cutH h n).get? b = h.get? b := by
  unfold cutH Heap.get?
  have e : (h.objs.extract 0 n)[b]? = h.objs[b]? := by
    rw [Array.getElem?_extract]
    by_cases hs : b < h.objs.size
    · rw [if_pos (by omega), Nat.zero_add]
    · rw [if_neg (by omega)]; rw [Array.getElem?_eq_none (by omega)]
  rw [e]
theorem cutH_lt {h : Heap} {n b : Nat} {o : Obj} (e : (cutH h n).get? b = some o) : b < n ∧ h.get? b = some o := by
  by_cases hb : b < n
  · exact ⟨hb, (cutH_get hb).symm.trans e⟩
  · have h1 : b < (cutH h n).objs.size := Heap.lt_size e
    have h2 : (cutH h n).objs.size ≤ n := by
      unfold cutH
      simp only [Array.size_extract]
      omega
    omega
def cutP (H : Hp) (n : Nat) : Hp := fun b => if b < n then H b else none
theorem cutP_lt {H : Hp} {n b : Nat} (hb : b < n) : cutP H n b = H b := if_pos hb
theorem cutP_some {H : Hp} {n b : Nat} {o : HO} (e : cutP H n b = some o) : H b = some o := by
  unfold cutP at e
  split at e
  · exact e
  · cases e
theorem fun_cut {h base : Heap} {n : Nat} : ∀ {l : List Env}, (∀ b ∈ frs l, b < n) → h.FunFrames base l → (cutH h n).FunFrames base l
  | [], _, _ => trivial
  | env :: l, hb, ⟨hk, ⟨L, o, hf, hn, ho, hd⟩, hr⟩ => by
    have hL : L < n := hb L (by unfold frs; rw [List.filterMap_cons, hf]; exact List.mem_cons_self)
    refine ⟨hk, ⟨L, o, hf, hn, (cutH_get hL).trans ho, hd⟩, fun_cut (fun b hm => hb b ?_) hr⟩
    unfold frs at hm ⊢
    rw [List.filterMap_cons, hf]
    exact List.mem_cons_of_mem _ hm
/-- the context of the body: woken in s0, the frame at L -/
def gx (P : Program) (w : World) (K : PySem.W.Frag) (mg : Str → Option Value) (base : Heap) (N : List Str) (qual : Str) (scope : Scope) (f : Addr) (cd : Value) (A : Around) (outer : List Env) (L : Addr) (s0 : Shared) (H0 : Hp) (pn : List (Addr × Obj)) : Cx where
  prog := P
  w := w
  K := K
  mg := mg
  base := base
  A := A.deeper (envOfC qual scope L f cd)
  N := N
  s_0 := { s0 with heap := cutH s0.heap L }
  H_0 := cutP H0 L
  env := envOfC qual scope L f cd
  outer := outer
  stack := envOfC qual scope L f cd :: outer
  ex := []
  fn := fun _ => true
  calm := true
  pn := pn
  xe := fun _ _ => False
section
variable {P : Program} {w : World} {K : PySem.W.Frag} {mg : Str → Option Value} {base : Heap} {N : List Str} {qual : Str} {scope : Scope} {f : Addr} {cd : Value} {A : Around} {outer : List Env} {L : Addr} {sc : Shared} {H : Hp} {pn : List (Addr × Obj)} {σ : L2.St}
/-- no name of the scope is a cell -/
def NoCells (scope : Scope) : Prop := ∀ y ∈ scope.names, y.2 ≠ .cell ∧ y.2 ≠ .free
theorem cells_none : ∀ {l : List (Str × NameKind)} {n : Nat}, (∀ y ∈ l, y.2 ≠ .cell) → cellsFrom n l [] = []
  | [], _, _ => rfl
  | (x, k) :: l, n, h => by
    have h1 : k ≠ .cell := h (x, k) List.mem_cons_self
    have ih := cells_none (l := l) (n := n) fun y hy => h y (List.mem_cons_of_mem _ hy)
    cases k <;> first | exact absurd rfl h1 | exact ih
theorem env_cells (nc : NoCells scope) : (envOfC qual scope L f cd).cells = [] := cells_none fun y hy => (nc y hy).1
/-- what a wake wants of the state -/
structure Woke (P : Program) (w : World) (K : PySem.W.Frag) (mg : Str → Option Value) (base : Heap) (outer : List Env) (L : Addr) (sc : Shared) : Prop where
  mod : Mod K mg base
  bs : ∀ b o, base.get? b = some o → sc.heap.get? b = some o
  bsz : base.objs.size ≤ L
  funs : sc.heap.FunFrames base outer
  frL : ∀ b ∈ frs outer, b < L
  bare : AllBare sc.gens
  lt : L < sc.heap.objs.size
theorem inv_wake (nc : NoCells scope) (hk : scope.kind = .function) (W : Woke P w K mg base outer L sc) (hd : A.handled = none) (hfr : A.frames = some outer)
    (bH : ∀ b o, base.get? b = some o → H b = none) (frf : ∀ b ∈ frs outer, H b = none) (hok : HOk P w H sc.heap) (free : H L = none)
    (loc : ∃ m, sc.heap.Ns L m ∧ ∀ (i : Nat) (x : Str) (v : V), N[i]? = some x → σ[i]? = some (some v) → scope.names.lookup x = some .local → ∃ u, RelV v u ∧ m x = some u) (len : σ.length = N.length)
    (pnok : ∀ p ∈ pn, sc.heap.get? p.1 = some p.2 ∧ H p.1 = none ∧ p.1 ≠ L ∧ p.1 ∉ frs outer ∧ ∀ v, p.2.data ≠ .cell v) :
    Inv (gx P w K mg base N qual scope f cd A outer L sc H pn) [] σ H sc := by
  have ec : ∀ x c, (gx P w K mg base N qual scope f cd A outer L sc H pn).env.cells.lookup x = some c → False := fun x c e => by
    have e1 : (envOfC qual scope L f cd).cells.lookup x = some c := e
    rw [env_cells nc] at e1
    cases e1
  have sz : (cutH sc.heap L).objs.size = L := cutH_size (Nat.le_of_lt W.lt)
  have nx : ∀ b : Addr, b ∉ (gx P w K mg base N qual scope f cd A outer L sc H pn).ex := fun b z => absurd (show b ∈ ([] : List Addr) from z) (by simp)
  have ltb : ∀ b o, base.get? b = some o → b < L := fun b o e => Nat.lt_of_lt_of_le (Heap.lt_size e) W.bsz
  refine ⟨⟨W.mod, hk, rfl, rfl, Nat.le_of_eq sz, fun x y c h1 _ => (ec x c h1).elim, fun x hx => ?_, fun x c _ h => (ec x c h).elim, fun _ => hd, Around.frames_deeper hfr, .inr ⟨rfl, rfl⟩,
    fun b z => absurd z (nx b), fun b o e => ⟨(cutH_get (ltb b o e)).trans (W.bs b o e), ?_⟩, ?_, fun b _ _ => nx b, fun b z => absurd z (nx b), fun_cut W.frL W.funs, fun b hb => ?_⟩,
    rfl, W.bare, ⟨fun b o e n _ _ => (cutH_lt e).2, fun b o e n _ _ => ⟨o.slots, (cutH_lt e).2⟩, fun b o e n _ => ?_, fun b o e _ => ⟨o, (cutH_lt e).2⟩, fun b xs e => cutP_some e, fun b o u e => cutP_some e, fun b ps e => ⟨#[], ?_⟩⟩,
    ?_, fun x c h => (ec x c h).elim, free, fun x c h => (ec x c h).elim, fun p hp => ?_, hok, len⟩
  · have hx' : scope.names.lookup x = some .cell ∨ scope.names.lookup x = some .free := hx
    rcases hx' with z | z
    · exact absurd rfl (nc _ (PySem.mem_of_lookup z)).1
    · exact absurd rfl (nc _ (PySem.mem_of_lookup z)).2
  · show cutP H L b = none
    rw [cutP_lt (ltb b o e)]
    exact bH b o e
  · show base.objs.size ≤ (cutH sc.heap L).objs.size
    rw [sz]
    exact W.bsz
  · show cutP H L b = none
    rw [cutP_lt (W.frL b hb)]
    exact frf b hb
  · have hb : b < L := (cutH_lt e).1
    have n' : cutP H L b = none := n
    rw [cutP_lt hb] at n'
    exact n'
  · have e' := cutP_some e
    rw [e']
    simp
  · obtain ⟨m, hn, hl⟩ := loc
    refine ⟨m, hn, fun i x v e1 e2 e3 => ?_⟩
    have hv : scope.names.lookup x = some .local := by
      rcases e3 with z | z | z
      · exact z
      · exact absurd rfl (nc _ (PySem.mem_of_lookup z)).1
      · exact absurd rfl (nc _ (PySem.mem_of_lookup z)).2
    obtain ⟨u, r, h⟩ := hl i x v e1 e2 hv
    exact ⟨u, r, .inl ⟨hv, h⟩⟩
  · have hp' : p ∈ pn := by
      rcases List.mem_append.mp hp with (z | z)
      · exact z
      · cases z
    exact pnok p hp'
end
end K76
namespace K76
open PySem PySem.Spec PyProof.Rows L2 GenW
/-! ### a for in a generator's body -/
section
variable {M : Model} {A : Around} {R : GenEnd} {Y : Protocol} {n : Nat} {s₀ s : Shared} {c : Code} {fs : List Frame} {env : Env}
  {K : Flow → Sem PySem.Fin} {J : Value → Sem PySem.Fin} {gd : Bool → Bool} {lv : List Value → List Value}
theorem seg_forS {tg iter : Expr} {body orelse : List Stmt} {pos : Pos} (hs : ∀ x, foldedSetIterable iter env x = pure x)
    (h : wpAny M (A.over c fs) (eval iter env) (fun x s1 => wpAny M (A.over c fs) (pyIter x) (fun it s2 => ∀ (kb : Result → Sem PySem.Fin) p, (∀ f, kb (.ok f) = K f) → Seg M A R Y n s₀ (.forLoop tg it body orelse env) (M.den (.forLoop tg it body orelse env))
      (.ret kb none (gd false) (lv []) c p [] :: fs) s2) (fun _ _ => False) s1) (fun _ _ => False) s) :
    Seg M A R Y n s₀ c ((exec (.For tg iter body orelse pos) env).wrap K J gd lv) fs s := by
  rw [exec_For]
  refine seg_bind_wrap ?_
  refine wpAny_standAt ?_
  refine seg_bind_wrap (wpAny_mono h (fun x s1 h1 => ?_) fun _ _ z => z.elim)
  rw [hs x]
  refine seg_bind_wrap (wpAny_pure ?_)
  refine seg_bind_wrap ?_
  refine wpAny_standAt ?_
  refine seg_bind_wrap (wpAny_holding (wpAny_mono h1 (fun it s2 h2 => ?_) fun _ _ z => z.elim))
  exact seg_call fun p => h2 _ p fun _ => rfl
end
section
variable {prog : Program} {w : World} {A : Around} {R : GenEnd} {Y : Protocol} {n : Nat} {s₀ s : Shared} {fs : List Frame} {env : Env}
/-- a way out of the loop by an exception: never here -/
def outFor (env : Env) : Value → Sem PySem.Fin := fun e => (do noteFrame e env; theTreesLotGoes e : Sem Unit).wrap (fun _ => .raise e) .raise id id
def kFor (tg : Expr) (it : Value) (body orelse : List Stmt) (env : Env) : Flow → Sem PySem.Fin := fun f => match f with
  | .next | .cont => .pure (.again (.forLoop tg it body orelse env))
  | .brk => .pure (.done .next)
  | .ret v => .pure (.done (.ret v))
theorem seg_forL {tg : Expr} {it : Value} {body : List Stmt}
    (h : wpAny (model prog w) (A.over (.forLoop tg it body [] env) fs) (pyNext it) (fun r s1 => match r with
      | none => Seg (model prog w) A R Y n s₀ (.block [] env) (.pure (.done .next)) fs s1
      | some v => wpAny (model prog w) (A.over (.forLoop tg it body [] env) fs) (letOwnedTupleGo tg it v) (fun _ s2 => wpAny (model prog w) (A.over (.forLoop tg it body [] env) fs) (assign tg env v) (fun _ s3 =>
          Seg (model prog w) A R Y n s₀ (.forLoop tg it body [] env) ((execs body env).wrap (kFor tg it body [] env) (outFor env) id id) fs s3) (fun _ _ => False) s2) (fun _ _ => False) s1) (fun _ _ => False) s) :
    Seg (model prog w) A R Y n s₀ (.forLoop tg it body [] env) ((model prog w).den (.forLoop tg it body [] env)) fs s := by
  show Seg _ A R Y n s₀ _ ((forTurn tg it body [] env).onRaise (fun x => do noteFrame x env; theTreesLotGoes x)) fs s
  rw [Sem.onRaise_eq_wrap]
  unfold forTurn
  refine seg_bind_wrap ?_
  refine wpAny_standAt ?_
  refine seg_bind_wrap (wpAny_onRaise (wpAny_mono h (fun r s1 h1 => ?_) fun _ _ z => z.elim))
  cases r with
  | none =>
    refine seg_again rfl ?_
    show Seg _ A R Y n s₀ _ (((execs [] env).onRaise (fun x => do noteFrame x env; theTreesLotGoes x)) >>= fun f => Sem.pure (.done f)) fs s1
    exact h1
  | some v =>
    refine seg_bind_wrap (wpAny_mono h1 (fun _ s2 h2 => ?_) fun _ _ z => z.elim)
    refine seg_bind_wrap (wpAny_mono h2 (fun _ s3 h3 => ?_) fun _ _ z => z.elim)
    rw [Sem.bind_eq_wrap', Sem.wrap_wrap]
    rw [Sem.wrap_congr (execs body env) _ _ (K' := kFor tg it body [] env) (H' := outFor env) (fun f => by cases f <;> rfl) (fun e => by first | exact Sem.bind_eq_wrap _ _ | rfl)]
    exact h3
end
end K76
namespace K76
open PySem PySem.Spec PyProof.Rows L2 GenW
/-! ### the generator orders_after: its parts -/
def gN : List Str := ["schedule", "order", "missed", "now", "at", "left", "gate"]
def gSt (i : Nat) : Stmt := (C8.fnBody (top 24)).getD i (.Pass ⟨0, 0, 0, 0⟩)
def forTg (s : Stmt) : Expr := match s with | .For t _ _ _ _ => t | _ => .Name "" ⟨0, 0, 0, 0⟩
def forIt (s : Stmt) : Expr := match s with | .For _ i _ _ _ => i | _ => .Name "" ⟨0, 0, 0, 0⟩
def forBd (s : Stmt) : List Stmt := match s with | .For _ _ b _ _ => b | _ => []
def forPos (s : Stmt) : Pos := match s with | .For _ _ _ _ p => p | _ => ⟨0, 0, 0, 0⟩
def gIf : Stmt := (forBd (gSt 2)).getD 0 (.Pass ⟨0, 0, 0, 0⟩)
def gYl : Stmt := (forBd (gSt 2)).getD 1 (.Pass ⟨0, 0, 0, 0⟩)
def ylE (s : Stmt) : Expr := match s with | .Expr (.Yield (some e) _) _ => e | _ => .Name "" ⟨0, 0, 0, 0⟩
def ylP (s : Stmt) : Pos := match s with | .Expr (.Yield (some _) p) _ => p | _ => ⟨0, 0, 0, 0⟩
def exP (s : Stmt) : Pos := match s with | .Expr _ p => p | _ => ⟨0, 0, 0, 0⟩
theorem gBody_eq : C8.fnBody (top 24) = [gSt 0, gSt 1, .For (forTg (gSt 2)) (forIt (gSt 2)) (forBd (gSt 2)) [] (forPos (gSt 2))] := rfl
theorem gFor_eq : forBd (gSt 2) = [gIf, .Expr (.Yield (some (ylE gYl)) (ylP gYl)) (exP gYl)] := rfl
abbrev gSc : Scope := C8.fnScope (top 24)
theorem gSc_nc : NoCells gSc := by
  have h : (gSc.names.all fun y => decide (y.2 ≠ .cell) && decide (y.2 ≠ .free)) = true := by decide +kernel
  intro y hy
  have q := List.all_eq_true.mp h y hy
  rw [Bool.and_eq_true, decide_eq_true_eq, decide_eq_true_eq] at q
  exact q
theorem gN_nd : gN.Nodup := by decide +kernel
section
variable {P : Program} {w : World} {K : PySem.W.Frag} {mg : Str → Option Value} {base : Heap} {C : Addr} {f : Addr} {cd : Value} {A : Around} {outer : List Env} {L : Addr} {s0 : Shared} {H0 : Hp} {pn : List (Addr × Obj)}
abbrev gX (P : Program) (w : World) (K : PySem.W.Frag) (mg : Str → Option Value) (base : Heap) (f : Addr) (cd : Value) (A : Around) (outer : List Env) (L : Addr) (s0 : Shared) (H0 : Hp) (pn : List (Addr × Obj)) : Cx :=
  gx P w K mg base gN "orders_after" gSc f cd A outer L s0 H0 pn
def DkAt (H : Hp) (d : Addr) : Prop := H d = some (.dK []) ∨ ∃ ob, H d = some (.frz ob (.dK []))
theorem DkAt.get {H : Hp} {d : Addr} (h : DkAt H d) (k : Int) : DGet H d (.int k) none := by
  have e : valV ([] : List (Key × V)) (Sum.inl k) = none := rfl
  rw [← e]
  rcases h with z | ⟨ob, z⟩
  · exact DGet.k (k := Sum.inl k) z
  · exact .inl ⟨[], Sum.inl k, .inr ⟨ob, z⟩, rfl, rfl⟩
/-- the if of a turn: the order is a step further -/
theorem run_gIf (hr : Room 1 (A.deeper (envOfC "orders_after" gSc L f cd))) (cE : C8.Cal P w K mg base 1 "is_exchanged" (spBad K) []) (cX : C8.Cal P w K mg base 1 "exchange" (spSwap K) [])
    {pins : List (Addr × Obj)} {s : Shared} {σ : L2.St} {H : Hp} {nw d : Addr} {o : List Nat} {g i : Nat} (I : Inv (gX P w K mg base f cd A outer L s0 H0 pn) pins σ H s)
    (h3 : σ[3]? = some (some (.ref nw))) (h4 : σ[4]? = some (some (iv i))) (h5 : σ[5]? = some (some (.ref d))) (h6 : σ[6]? = some (some (iv g)))
    (hn : H nw = some (.lst (nv o))) (hd : DkAt H d) (g1 : 1 ≤ g) (g2 : g < o.length) :
    wpAny (model P w) (A.deeper (envOfC "orders_after" gSc L f cd)) (exec gIf (envOfC "orders_after" gSc L f cd))
      (fun fl s' => fl = .next ∧ ∃ H', Inv (gX P w K mg base f cd A outer L s0 H0 pn) pins σ H' s' ∧ H' nw = some (.lst (nv (step o g))) ∧ (∀ b u, b ≠ nw → H b = some u → H' b = some u) ∧ Grown H H') (fun _ _ => False) s := by
  have hu := hu_of hr
  have ps : PS (gX P w K mg base f cd A outer L s0 H0 pn) gIf _ := ps_if (PW.pt (pw_and (pt_cmp (pc_dnotin hu (pv 4) (pv 5))) (pw_and1 (pt_val (C8.pe_c cE hr (by decide) (by rfl) (pa_cons (pv 3) (pa_cons (pv 6) pa_nil)))))))
    (pss_one (ps_expr (C8.pe_c cX hr (by decide) (by rfl) (pa_cons (pv 3) (pa_cons (pv 6) pa_nil))))) pss_nil
  refine wpAny_mono (ps.run pins s σ H { nx := fun σ' H' => σ' = σ ∧ H' nw = some (.lst (nv (step o g))) ∧ (∀ b u, b ≠ nw → H b = some u → H' b = some u) ∧ Grown H H', rt := fun _ _ => False } I ?_) (fun fl s' h => ?_) fun _ _ z => z
  · refine ⟨_, h4, _, h5, d, none, rfl, hd.get _, true, rfl, iteT ⟨_, h3, _, h6, nw, o, g, rfl, hn, g1, g2, _, rfl, ?_⟩⟩
    cases hb : bad o g with
    | true =>
      refine iteT ⟨_, h3, _, h6, nw, o, g, rfl, hn, g1, g2, fun H' e1 e2 e3 => ⟨rfl, ?_, e2, e3⟩⟩
      rw [e1]
      unfold step
      rw [hb, if_pos rfl]
    | false =>
      refine iteF ⟨rfl, ?_, fun _ _ _ z => z, Grown.refl H⟩
      rw [hn]
      unfold step
      rw [hb]
      rw [if_neg (show ¬ (false = true) from Bool.false_ne_true)]
  · cases fl with
    | next =>
      obtain ⟨σ', H', I', rfl, q⟩ := h
      exact ⟨rfl, H', I', q⟩
    | brk => obtain ⟨_, _, _, z⟩ := h; exact z.elim
    | cont => obtain ⟨_, _, _, z⟩ := h; exact z.elim
    | ret u => obtain ⟨_, _, _, _, _, z⟩ := h; exact z.elim
/-- what a turn hands out: a new list of the order -/
theorem run_gYl (g : Gs K mg) {pins : List (Addr × Obj)} {s : Shared} {σ : L2.St} {H : Hp} {nw : Addr} {o : List Nat} (I : Inv (gX P w K mg base f cd A outer L s0 H0 pn) pins σ H s)
    (h3 : σ[3]? = some (some (.ref nw))) (hn : H nw = some (.lst (nv o))) :
    wpAny (model P w) (A.deeper (envOfC "orders_after" gSc L f cd)) (eval (ylE gYl) (envOfC "orders_after" gSc L f cd))
      (fun v s' => ∃ p, v = .ref p ∧ H p = none ∧ Inv (gX P w K mg base f cd A outer L s0 H0 pn) pins σ (upd H p (.lst (nv o))) s') (fun _ _ => False) s := by
  have pe : PE (gX P w K mg base f cd A outer L s0 H0 pn) (ylE gYl) _ := pe_callTy call_list_of (by rfl) g.list (by decide +kernel) (pa_cons (pv 3) pa_nil)
  refine wpAny_mono (pe.run pins s σ H (fun v H' => ∃ p, v = .ref p ∧ H p = none ∧ H' = upd H p (.lst (nv o))) I ⟨_, h3, nw, _, rfl, .inl (SqL.of hn), fun p np => ⟨p, rfl, np, rfl⟩⟩) (fun v s' h => ?_) fun _ _ z => z
  obtain ⟨x, H', I', r, p, rfl, np, rfl⟩ := h
  exact ⟨p, r, np, I'⟩
end
end K76
namespace K76
open PySem PySem.Spec PyProof.Rows L2 GenW
/-! ### the protocol between the generator and whoever draws from it -/
abbrev noH : Hp := fun _ => none
/-- the generator's frame calls b «now» -/
def NowIs (L : Addr) (h : Heap) (b : Addr) : Prop := ∃ m, h.Ns L m ∧ m "now" = some (.ref b)
/-- not one of the generator's own moving objects, by its looks (a: the generator) -/
def Crit (a : Addr) (b : Addr) (o : Obj) : Prop :=
  (∀ v, o.data ≠ .cell v) ∧ o.cls ≠ .type "list_iterator" ∧ (o.cls = .type "enumerate" → ∃ vs : Array Value, o.data = .fields vs ∧ vs[2]? = some (.ref a))
def CritF (b : Addr) (o : Obj) : Prop := ∀ v, o.data ≠ .cell v
/-- the generator between two turns, i of them done -/
structure LoopAt (P : Program) (w : World) (base : Heap) (outer : List Env) (L : Addr) (gs o : List Nat) (i : Nat) (nw gl d e it : Addr) (h : Heap) : Prop where
  loc : ∃ m, h.Ns L m ∧ m "now" = some (.ref nw) ∧ ∃ (p a0 mt : Addr) (v4 v6 : Option V), ∀ (j : Nat) (x : Str) (v : V), gN[j]? = some x → ([some (.ref p), some (.ref a0), some (.ref mt), some (.ref nw), v4, some (.ref d), v6] : L2.St)[j]? = some (some v) → gSc.names.lookup x = some .local → ∃ u, RelV v u ∧ m x = some u
  en : ∃ old, IsEnum h e it ((i : Nat) : Int) old
  li : h.IsListIter it gl i
  ne : e ≠ it
  nwO : ObjOk P w noH h nw (.lst (nv (plays (gs.take i) o)))
  glO : ObjOk P w noH h gl (.lst (nv gs))
  dO : ObjOk P w noH h d (.dK [])
  gt : L < e ∧ L < it
  own : ∀ b, b = nw ∨ b = gl ∨ b = d → b ≠ L ∧ b ∉ frs outer ∧ base.get? b = none
  dis : gl ≠ nw ∧ d ≠ nw ∧ d ≠ gl
/-- what was untracked is kept (frames up to their slots) -/
def UnK (outer : List Env) (L : Addr) (cr : Addr → Obj → Prop) (Hw H1 : Hp) (h h1 : Heap) : Prop :=
  ∀ b o, h.get? b = some o → Hw b = none → (b < L ∨ (L < b ∧ cr b o)) → H1 b = none ∧ (b ∉ frs outer → h1.get? b = some o) ∧ (b ∈ frs outer → ∃ sl, h1.get? b = some { o with slots := sl })
/-- all is kept -/
def Keep (outer : List Env) (L a : Addr) (h h1 : Heap) : Prop :=
  ∀ b o, h.get? b = some o → (b < L ∨ (L < b ∧ Crit a b o)) → ¬ NowIs L h b → (b ∉ frs outer → h1.get? b = some o) ∧ (b ∈ frs outer → ∃ sl, h1.get? b = some { o with slots := sl })
/-- ready to be drawn from again -/
structure Ready (P : Program) (w : World) (K : PySem.W.Frag) (mg : Str → Option Value) (base : Heap) (outer : List Env) (L a g : Addr) (gs o : List Nat) (i : Nat) (nw gl d e it : Addr) (s : Shared) : Prop where
  woke : Woke P w K mg base outer L s
  loop : LoopAt P w base outer L gs o i nw gl d e it s.heap
  gen : s.heap.IsGen a g
/-- the first turn's own word, in the drawer's heap HF -/
def FirstOut (P : Program) (w : World) (outer : List Env) (L : Addr) (gs o : List Nat) (HF : Hp) (h h1 : Heap) (nw gl d p : Addr) : Prop :=
  ∃ H1 : Hp, HOk P w H1 h1 ∧ (∀ b u, HF b = some u → H1 b = some u) ∧ Grown HF H1 ∧ HF nw = none ∧ HF gl = none ∧ HF d = none ∧ HF p = none ∧ p ≠ nw ∧ p ≠ gl ∧ p ≠ d ∧
    H1 nw = some (.lst (nv (plays (gs.take 1) o))) ∧ H1 gl = some (.lst (nv gs)) ∧ H1 d = some (.dK []) ∧ H1 p = some (.lst (nv (plays (gs.take 1) o))) ∧ H1 L = none ∧ UnK outer L CritF HF H1 h h1
/-- an item is handed out -/
def YG (P : Program) (w : World) (K : PySem.W.Frag) (mg : Str → Option Value) (base : Heap) (outer : List Env) (L a g : Addr) (gs o : List Nat) (HF : Hp) : Protocol := fun n s₀ v s1 kap =>
  ∃ (i : Nat) (nw gl d e it p : Addr), i + 1 + n = gs.length ∧ v = .ref p ∧ s1.os = s₀.os ∧ AllBare s1.gens ∧ LoopAt P w base outer L gs o (i + 1) nw gl d e it s1.heap ∧ ObjOk P w noH s1.heap p (.lst (nv (plays (gs.take (i + 1)) o))) ∧ s1.heap.IsGen a g ∧ (∀ b, HF b ≠ none → b ≠ nw ∧ b ≠ gl ∧ b ≠ d) ∧ p ≠ L ∧ Ready P w K mg base outer L a g gs o (i + 1) nw gl d e it s1 ∧
    (i = 0 → FirstOut P w outer L gs o HF s₀.heap s1.heap nw gl d p) ∧ (0 < i → NowIs L s₀.heap nw ∧ Keep outer L a s₀.heap s1.heap ∧ p ≠ nw ∧ p ≠ gl ∧ p ≠ d ∧ ∀ ob, s₀.heap.get? p = some ob → ¬ (p < L ∨ (L < p ∧ Crit a p ob))) ∧
    ∀ s2, Ready P w K mg base outer L a g gs o (i + 1) nw gl d e it s2 → kap (.send .none) s2
/-- the end -/
def FG (P : Program) (w : World) (outer : List Env) (L a : Addr) (gs o : List Nat) (HF : Hp) (n : Nat) (s₀ s1 : Shared) : Prop :=
  s1.os = s₀.os ∧ AllBare s1.gens ∧ (gs.length = 0 → ∃ H1 : Hp, HOk P w H1 s1.heap ∧ (∀ b u, HF b = some u → H1 b = some u) ∧ UnK outer L CritF HF H1 s₀.heap s1.heap) ∧ (0 < gs.length → Keep outer L a s₀.heap s1.heap ∧ ∀ b, NowIs L s₀.heap b → ObjOk P w noH s1.heap b (.lst (nv (plays gs o))))
def RG (P : Program) (w : World) (outer : List Env) (L a : Addr) (gs o : List Nat) (HF : Hp) : GenEnd := fun n s₀ r s1 =>
  ((r = .ok (.ret .none) ∨ r = .ok .next) ∧ (n = 0 ∧ FG P w outer L a gs o HF n s₀ s1)) ∨ ∃ e, r = .error e ∧ False
/-! ### pins by a look -/
noncomputable def pinsBy (h : Heap) (φ : Addr → Obj → Prop) : List (Addr × Obj) := (List.range h.objs.size).filterMap fun b => match h.get? b with
  | some o => @ite _ (φ b o) (Classical.propDecidable _) (some (b, o)) none
  | none => none
theorem mem_pinsBy {h : Heap} {φ : Addr → Obj → Prop} {b : Addr} {o : Obj} (e : h.get? b = some o) (p : φ b o) : (b, o) ∈ pinsBy h φ := by
  refine List.mem_filterMap.mpr ⟨b, List.mem_range.mpr (Heap.lt_size e), ?_⟩
  rw [e]
  exact if_pos p
theorem of_pinsBy {h : Heap} {φ : Addr → Obj → Prop} {p : Addr × Obj} (hp : p ∈ pinsBy h φ) : h.get? p.1 = some p.2 ∧ φ p.1 p.2 := by
  obtain ⟨b, hb, e⟩ := (List.mem_filterMap).mp hp
  cases q : h.get? b with
  | none =>
    rw [q] at e
    cases e
  | some o =>
    rw [q] at e
    have e' : (@ite _ (φ b o) (Classical.propDecidable _) (some (b, o)) none) = some p := e
    by_cases z : φ b o
    · rw [if_pos z] at e'
      have e2 := Option.some.inj e'
      rw [← e2]
      exact ⟨q, z⟩
    · rw [if_neg z] at e'
      cases e'
section
variable {P : Program} {w : World} {K : PySem.W.Frag} {mg : Str → Option Value} {base : Heap} {f : Addr} {cd : Value} {A : Around} {outer : List Env} {L : Addr} {sc : Shared} {Hw : Hp}
/-- what is untracked at the wake is kept, read off the invariant -/
theorem unk_of {cr : Addr → Obj → Prop} {pins : List (Addr × Obj)} {σ : L2.St} {H1 : Hp} {s1 : Shared} (frL : ∀ b ∈ frs outer, b < L)
    (I : Inv (gX P w K mg base f cd A outer L sc Hw (pinsBy sc.heap fun b o => L < b ∧ Hw b = none ∧ cr b o)) pins σ H1 s1) : UnK outer L cr Hw H1 sc.heap s1.heap := by
  intro b o e n hb
  have nx : ∀ b : Addr, b ∉ (gX P w K mg base f cd A outer L sc Hw (pinsBy sc.heap fun b o => L < b ∧ Hw b = none ∧ cr b o)).ex := fun b z => absurd (show b ∈ ([] : List Addr) from z) (by simp)
  rcases hb with hb | ⟨hb, hc⟩
  · have e0 : (gX P w K mg base f cd A outer L sc Hw (pinsBy sc.heap fun b o => L < b ∧ Hw b = none ∧ cr b o)).s_0.heap.get? b = some o := (cutH_get hb).trans e
    have n0 : (gX P w K mg base f cd A outer L sc Hw (pinsBy sc.heap fun b o => L < b ∧ Hw b = none ∧ cr b o)).H_0 b = none := (cutP_lt hb).trans n
    exact ⟨I.base.free b o e0 n0 (nx b), fun hf => I.base.keep b o e0 n0 hf (nx b), fun hf => I.base.slot b o e0 n0 hf (nx b)⟩
  · obtain ⟨h1, h2, _⟩ := I.pin (b, o) (List.mem_append_left _ (mem_pinsBy e ⟨hb, n, hc⟩))
    exact ⟨h2, fun _ => h1, fun hf => absurd (frL b hf) (Nat.lt_asymm hb)⟩
end
end K76
namespace K76
open PySem PySem.Spec PyProof.Rows L2 GenW
/-- the generator's own heap at a wake behind the first -/
def smallH (nw gl d : Addr) (ol od : Obj) (now gs : List Nat) : Hp := fun b => if b = nw then some (.lst (nv now)) else if b = gl then some (.frz ol (.lst (nv gs))) else if b = d then some (.frz od (.dK [])) else none
theorem smallH_nw {nw gl d : Addr} {ol od : Obj} {now gs : List Nat} : smallH nw gl d ol od now gs nw = some (.lst (nv now)) := if_pos rfl
theorem smallH_gl {nw gl d : Addr} {ol od : Obj} {now gs : List Nat} (h : gl ≠ nw) : smallH nw gl d ol od now gs gl = some (.frz ol (.lst (nv gs))) := by
  unfold smallH
  rw [if_neg h, if_pos rfl]
theorem smallH_d {nw gl d : Addr} {ol od : Obj} {now gs : List Nat} (h : d ≠ nw) (h2 : d ≠ gl) : smallH nw gl d ol od now gs d = some (.frz od (.dK [])) := by
  unfold smallH
  rw [if_neg h, if_neg h2, if_pos rfl]
theorem smallH_no {nw gl d b : Addr} {ol od : Obj} {now gs : List Nat} (h1 : b ≠ nw) (h2 : b ≠ gl) (h3 : b ≠ d) : smallH nw gl d ol od now gs b = none := by
  unfold smallH
  rw [if_neg h1, if_neg h2, if_neg h3]
theorem smallH_in {nw gl d b : Addr} {ol od : Obj} {now gs : List Nat} {u : HO} (h : smallH nw gl d ol od now gs b = some u) : b = nw ∨ b = gl ∨ b = d := by
  by_cases h1 : b = nw
  · exact .inl h1
  · by_cases h2 : b = gl
    · exact .inr (.inl h2)
    · by_cases h3 : b = d
      · exact .inr (.inr h3)
      · rw [smallH_no h1 h2 h3] at h
        cases h
/-- which wake this is -/
structure Stage (L a : Addr) (gs o : List Nat) (HF : Hp) (i : Nat) (s₀ : Shared) (Hw : Hp) (cr : Addr → Obj → Prop) (nw gl d : Addr) : Prop where
  first : i = 0 → Hw = HF ∧ cr = CritF ∧ HF nw = none ∧ HF gl = none ∧ HF d = none
  later : 0 < i → cr = Crit a ∧ NowIs L s₀.heap nw ∧ ∃ ol od, Hw = smallH nw gl d ol od (plays (gs.take i) o) gs ∧ s₀.heap.get? gl = some ol ∧ s₀.heap.get? d = some od
section
variable {P : Program} {w : World} {K : PySem.W.Frag} {mg : Str → Option Value} {base : Heap} {f : Addr} {cd : Value} {A : Around} {outer : List Env} {L a : Addr} {gs o : List Nat} {HF : Hp}
/-- from the invariant at the turn's end: all is kept (a wake behind the first) -/
theorem keep_of {i : Nat} {s₀ s1 : Shared} {Hw H1 : Hp} {cr : Addr → Obj → Prop} {nw gl d : Addr} {pins : List (Addr × Obj)} {σ : L2.St} (hi : 0 < i) (S : Stage L a gs o HF i s₀ Hw cr nw gl d) (frL : ∀ b ∈ frs outer, b < L)
    (dis : gl ≠ nw ∧ d ≠ nw ∧ d ≠ gl) (own : ∀ b, b = nw ∨ b = gl ∨ b = d → b ≠ L ∧ b ∉ frs outer ∧ base.get? b = none) (gr : ∀ b u, b ≠ nw → Hw b = some u → H1 b = some u)
    (I : Inv (gX P w K mg base f cd A outer L s₀ Hw (pinsBy s₀.heap fun b o => L < b ∧ Hw b = none ∧ cr b o)) pins σ H1 s1) : Keep outer L a s₀.heap s1.heap := by
  obtain ⟨ec, hN, ol, od, eH, e1, e2⟩ := S.later hi
  have U := unk_of frL I
  intro b ob e hb nN
  have hb' : b < L ∨ (L < b ∧ cr b ob) := by
    rw [ec]
    exact hb
  have nf : L < b → b ∉ frs outer := fun z hf => absurd (frL b hf) (Nat.lt_asymm z)
  cases q : Hw b with
  | none => exact (U b ob e q hb').2
  | some u =>
    have q' := q
    rw [eH] at q'
    rcases smallH_in q' with z | z | z
    · rw [z] at nN
      exact absurd hN nN
    · rw [z] at e ⊢
      have h1 : H1 gl = some (.frz ol (.lst (nv gs))) := gr gl _ dis.1 (by rw [eH]; exact smallH_gl dis.1)
      have h2 : s1.heap.get? gl = some ol := (I.hok gl _ h1).1
      rw [e1] at e
      cases e
      exact ⟨fun _ => h2, fun hf => absurd hf (own gl (.inr (.inl rfl))).2.1⟩
    · rw [z] at e ⊢
      have h1 : H1 d = some (.frz od (.dK [])) := gr d _ dis.2.1 (by rw [eH]; exact smallH_d dis.2.1 dis.2.2)
      have h2 : s1.heap.get? d = some od := (I.hok d _ h1).1
      rw [e2] at e
      cases e
      exact ⟨fun _ => h2, fun hf => absurd hf (own d (.inr (.inr rfl))).2.1⟩
/-- a list stands at a, whatever is tracked -/
theorem lst_any {H H' : Hp} {h : Heap} {b : Addr} {xs : List V} (x : ObjOk P w H h b (.lst xs)) : ObjOk P w H' h b (.lst xs) := x
theorem dk_any {H H' : Hp} {h : Heap} {b : Addr} {kvs : List (Key × V)} (x : ObjOk P w H h b (.dK kvs)) : ObjOk P w H' h b (.dK kvs) := x
theorem rd_lst {H : Hp} {h : Heap} {b : Addr} {xs : List V} (hok : HOk P w H h) (r : Rd H b (.lst xs)) : ObjOk P w noH h b (.lst xs) := lst_any (r.ok hok)
theorem rd_dk {H : Hp} {h : Heap} {b : Addr} (hok : HOk P w H h) (r : DkAt H b) : ObjOk P w noH h b (.dK []) := by
  rcases r with z | ⟨ob, z⟩
  · exact dk_any (hok b _ z)
  · exact dk_any (hok b _ z).2
/-- where an object of one kind stands none of another does -/
theorem obj_ne {h : Heap} {b c : Addr} {o u : Obj} (h1 : h.get? b = some o) (h2 : h.get? c = some u) (hc : o.cls ≠ u.cls) : b ≠ c := by
  intro e
  rw [e, h2] at h1
  cases h1
  exact hc rfl
theorem lst_cls {H : Hp} {h : Heap} {b : Addr} {xs : List V} (x : ObjOk P w H h b (.lst xs)) : ∃ ob, h.get? b = some ob ∧ ob.cls = .type "list" := by
  obtain ⟨_, its, n, _, e⟩ := x
  exact ⟨_, e, rfl⟩
theorem dk_cls {H : Hp} {h : Heap} {b : Addr} {kvs : List (Key × V)} (x : ObjOk P w H h b (.dK kvs)) : ∃ ob, h.get? b = some ob ∧ ob.cls = .type "dict" := by
  obtain ⟨_, _, vs, _, ob, es, ep, e, ex, _⟩ := x
  exact ⟨ob, e, ex.1⟩
theorem ns_one {h : Heap} {b : Addr} {m m' : Str → Option Value} (x : h.Ns b m) (y : h.Ns b m') : m = m' := x.eq_nsMap.trans y.eq_nsMap.symm
/-- the generator's own object among the pins -/
def GenPin (a g : Addr) (pn : List (Addr × Obj)) : Prop := ∃ (og : Obj) (nm qn : Value), (a, og) ∈ pn ∧ og.cls = .type "generator" ∧ og.data = .fields #[.int g 0, nm, qn] ∧ og.slots = #[]
/-- the iterators are free to turn -/
theorem fp_ok {s₀ : Shared} {Hw H : Hp} {cr : Addr → Obj → Prop} {e it : Addr} (hs : L < s₀.heap.objs.size) (frL : ∀ b ∈ frs outer, b < L) (ge : L < e) (gi : L < it) (he : H e = none) (hi : H it = none)
    (ne : ∀ ob, s₀.heap.get? e = some ob → Hw e = none → ¬ cr e ob) (ni : ∀ ob, s₀.heap.get? it = some ob → Hw it = none → ¬ cr it ob) :
    ∀ b ∈ [e, it], FpOk (gX P w K mg base f cd A outer L s₀ Hw (pinsBy s₀.heap fun b o => L < b ∧ Hw b = none ∧ cr b o)) [] H b := by
  have one : ∀ b, L < b → H b = none → (∀ ob, s₀.heap.get? b = some ob → Hw b = none → ¬ cr b ob) → FpOk (gX P w K mg base f cd A outer L s₀ Hw (pinsBy s₀.heap fun b o => L < b ∧ Hw b = none ∧ cr b o)) [] H b := by
    intro b hb hH hn
    refine ⟨hH, Nat.ne_of_gt hb, fun hf => absurd (frL b hf) (Nat.lt_asymm hb), .inr ?_, fun x c e => ?_, fun p hp z => ?_⟩
    · show (cutH s₀.heap L).objs.size ≤ b
      rw [cutH_size (Nat.le_of_lt hs)]
      exact Nat.le_of_lt hb
    · have e1 : (envOfC "orders_after" gSc L f cd).cells.lookup x = some c := e
      rw [env_cells gSc_nc] at e1
      cases e1
    · have hp' : p ∈ pinsBy s₀.heap fun b o => L < b ∧ Hw b = none ∧ cr b o := by
        rcases List.mem_append.mp hp with y | y
        · exact y
        · cases y
      obtain ⟨q1, _, q2, q3⟩ := of_pinsBy hp'
      rw [z] at q1 q2 q3
      exact hn _ q1 q2 q3
  intro b hb
  rcases List.mem_cons.mp hb with (z | z)
  · rw [z]
    exact one e ge he ne
  · have ez := List.mem_singleton.mp z
    rw [ez]
    exact one it gi hi ni
/-- woken again behind the first turn: the invariant from the state alone -/
theorem wake_later {g : Nat} {i : Nat} {nw gl d e it : Addr} {s2 : Shared} (hi : 0 < i) (hd : A.handled = none) (hfr : A.frames = some outer) (la : L < a) (R : Ready P w K mg base outer L a g gs o i nw gl d e it s2) :
    ∃ (Hw : Hp) (cr : Addr → Obj → Prop) (p a0 mt : Addr) (v4 v6 : Option V), Stage L a gs o HF i s2 Hw cr nw gl d ∧ Hw nw = some (.lst (nv (plays (gs.take i) o))) ∧ Rd Hw gl (.lst (nv gs)) ∧ DkAt Hw d ∧
      GenPin a g (pinsBy s2.heap fun b o => L < b ∧ Hw b = none ∧ cr b o) ∧
      (∀ b ∈ [e, it], FpOk (gX P w K mg base f cd A outer L s2 Hw (pinsBy s2.heap fun b o => L < b ∧ Hw b = none ∧ cr b o)) [] Hw b) ∧
      Inv (gX P w K mg base f cd A outer L s2 Hw (pinsBy s2.heap fun b o => L < b ∧ Hw b = none ∧ cr b o)) [] [some (.ref p), some (.ref a0), some (.ref mt), some (.ref nw), v4, some (.ref d), v6] Hw s2 := by
  obtain ⟨W, Lp, G⟩ := R
  obtain ⟨mm, hns, hnow, p, a0, mt, v4, v6, hl⟩ := Lp.loc
  obtain ⟨olg, elg, clg⟩ := lst_cls Lp.glO
  obtain ⟨onw, enw, cnw⟩ := lst_cls Lp.nwO
  obtain ⟨odd, edd, cdd⟩ := dk_cls Lp.dO
  obtain ⟨old, he⟩ := Lp.en
  obtain ⟨oit, eit, cit, dit⟩ := Lp.li
  obtain ⟨og, nm, qn, eg, cg, dg, sg⟩ := G
  obtain ⟨g4, g5⟩ := Lp.gt
  obtain ⟨d1, d2, d3⟩ := Lp.dis
  have out : ∀ b, (b = L ∨ b ∈ frs outer ∨ base.get? b ≠ none) → smallH nw gl d olg odd (plays (gs.take i) o) gs b = none := fun b hb => by
    have no : ∀ c, c = nw ∨ c = gl ∨ c = d → b ≠ c := fun c hc e => by
      obtain ⟨q1, q2, q3⟩ := Lp.own c hc
      rw [e] at hb
      rcases hb with z | z | z
      · exact q1 z
      · exact q2 z
      · exact z q3
    exact smallH_no (no _ (.inl rfl)) (no _ (.inr (.inl rfl))) (no _ (.inr (.inr rfl)))
  have k1 : (Value.type "enumerate" : Value) ≠ .type "list" := by decide
  have k2 : (Value.type "enumerate" : Value) ≠ .type "dict" := by decide
  have en : smallH nw gl d olg odd (plays (gs.take i) o) gs e = none := smallH_no (obj_ne he enw (by rw [cnw]; exact k1)) (obj_ne he elg (by rw [clg]; exact k1)) (obj_ne he edd (by rw [cdd]; exact k2))
  have itn : smallH nw gl d olg odd (plays (gs.take i) o) gs it = none := smallH_no (obj_ne eit enw (by rw [cit, cnw]; decide)) (obj_ne eit elg (by rw [cit, clg]; decide)) (obj_ne eit edd (by rw [cit, cdd]; decide))
  have na : a ≠ nw := obj_ne eg enw (by rw [cg, cnw]; decide)
  have an : smallH nw gl d olg odd (plays (gs.take i) o) gs a = none := smallH_no na (obj_ne eg elg (by rw [cg, clg]; decide)) (obj_ne eg edd (by rw [cg, cdd]; decide))
  have ita : it ≠ a := obj_ne eit eg (by rw [cit, cg]; decide)
  have hNow : NowIs L s2.heap nw := ⟨mm, hns, hnow⟩
  refine ⟨smallH nw gl d olg odd (plays (gs.take i) o) gs, Crit a, p, a0, mt, v4, v6, ⟨fun z => absurd z (Nat.ne_of_gt hi), fun _ => ⟨rfl, hNow, olg, odd, rfl, elg, edd⟩⟩, smallH_nw, .inr ⟨olg, smallH_gl d1⟩, .inr ⟨odd, smallH_d d2 d3⟩, ?_, ?_, ?_⟩
  · exact ⟨og, nm, qn, mem_pinsBy eg ⟨la, an, (fun v q => by rw [dg] at q; cases q), (by rw [cg]; decide), (fun q => absurd q (by rw [cg]; decide))⟩, cg, dg, sg⟩
  · refine fp_ok W.lt W.frL g4 g5 en itn (fun ob hob _ hc => ?_) (fun ob hob _ hc => ?_)
    · rw [he] at hob
      cases hob
      obtain ⟨vs, h1, h2⟩ := hc.2.2 rfl
      cases h1
      have h3 : (some (Value.ref it) : Option Value) = some (.ref a) := h2
      injection h3 with h4
      injection h4 with h5
      exact ita h5
    · rw [eit] at hob
      cases hob
      exact hc.2.1 cit
  · refine inv_wake gSc_nc rfl W hd hfr (fun b ob eb => out b (.inr (.inr ?_))) (fun b hb => out b (.inr (.inl hb))) (fun b u hu => ?_) (out L (.inl rfl)) ⟨mm, hns, hl⟩ rfl (fun q hq => ?_)
    · rw [eb]
      intro z
      cases z
    · rcases smallH_in hu with z | z | z
      · rw [z, smallH_nw] at hu
        cases hu
        rw [z]
        exact lst_any Lp.nwO
      · rw [z, smallH_gl d1] at hu
        cases hu
        rw [z]
        exact ⟨elg, lst_any Lp.glO⟩
      · rw [z, smallH_d d2 d3] at hu
        cases hu
        rw [z]
        exact ⟨edd, dk_any Lp.dO⟩
    · obtain ⟨q1, q2, q3, q4⟩ := of_pinsBy hq
      exact ⟨q1, q3, Nat.ne_of_gt q2, fun hf => absurd (W.frL _ hf) (Nat.lt_asymm q2), q4.1⟩
end
end K76
namespace K76
open PySem PySem.Spec PyProof.Rows L2 GenW
theorem plays_take {gs o : List Nat} {i g : Nat} (h : gs[i]? = some g) : plays (gs.take (i + 1)) o = step (plays (gs.take i) o) g := by
  unfold plays
  rw [List.take_add_one]; rw [h, List.foldl_append]
  rfl
theorem swp_len (o : List Nat) (g : Nat) : (swp o g).length = o.length := by
  unfold swp
  rw [List.length_set, List.length_set]
theorem step_len (o : List Nat) (g : Nat) : (step o g).length = o.length := by
  unfold step
  split
  · exact swp_len o g
  · rfl
theorem plays_len : ∀ (gs o : List Nat), (plays gs o).length = o.length
  | [], _ => rfl
  | g :: gs, o => (plays_len gs (step o g)).trans (step_len o g)
theorem rd_mono {H H' : Hp} {b nw : Addr} {u : HO} (h : Rd H b u) (gr : ∀ c v, c ≠ nw → H c = some v → H' c = some v) (hb : b ≠ nw) : Rd H' b u := by
  rcases h with z | ⟨ob, z⟩
  · exact .inl (gr _ _ hb z)
  · exact .inr ⟨ob, gr _ _ hb z⟩
theorem dk_mono {H H' : Hp} {b nw : Addr} (h : DkAt H b) (gr : ∀ c v, c ≠ nw → H c = some v → H' c = some v) (hb : b ≠ nw) : DkAt H' b := by
  rcases h with z | ⟨ob, z⟩
  · exact .inl (gr _ _ hb z)
  · exact .inr ⟨ob, gr _ _ hb z⟩
section
variable {P : Program} {w : World} {K : PySem.W.Frag} {mg : Str → Option Value} {base : Heap} {f : Addr} {cd : Value} {A : Around} {outer : List Env} {L a g : Addr} {gs o : List Nat} {HF : Hp}
theorem loc_of {sc : Shared} {Hw : Hp} {pn pins : List (Addr × Obj)} {σ : L2.St} {H : Hp} {s : Shared} (I : Inv (gX P w K mg base f cd A outer L sc Hw pn) pins σ H s) :
    ∃ m, s.heap.Ns L m ∧ ∀ (j : Nat) (x : Str) (v : V), gN[j]? = some x → σ[j]? = some (some v) → gSc.names.lookup x = some .local → ∃ u, RelV v u ∧ m x = some u := by
  obtain ⟨m, hn, hl⟩ := I.loc
  refine ⟨m, hn, fun j x v e1 e2 e3 => ?_⟩
  obtain ⟨u, r, l⟩ := hl j x v e1 e2 (.inl e3)
  rcases l with ⟨_, l⟩ | ⟨l, _⟩
  · exact ⟨u, r, l⟩
  · have l' : gSc.names.lookup x = some .cell ∨ gSc.names.lookup x = some .free := l
    rcases l' with z | z <;> (rw [e3] at z; cases z)
/-- the loop, from any turn on -/
theorem seg_loop (G : Gs K mg) (hr : Room 1 (A.deeper (envOfC "orders_after" gSc L f cd))) (cE : C8.Cal P w K mg base 1 "is_exchanged" (spBad K) []) (cX : C8.Cal P w K mg base 1 "exchange" (spSwap K) [])
    (hd : A.handled = none) (hfr : A.frames = some outer) (la : L < a) (frL : ∀ b ∈ frs outer, b < L) (okg : ∀ x ∈ gs, 1 ≤ x ∧ x < o.length) {K0 : Flow → Sem PySem.Fin} {kb : Result → Sem PySem.Fin} {p0 : Pos} (hkb : ∀ fl, kb (.ok fl) = K0 fl)
    (hK : ∀ s₀ s, RG P w outer L a gs o HF 0 s₀ (.ok (.ret .none)) s → Seg (model P w) A (RG P w outer L a gs o HF) (YG P w K mg base outer L a g gs o HF) 0 s₀ (.func (C8.fnBody (top 24)) (envOfC "orders_after" gSc L f cd)) (K0 .next) [] s) :
    ∀ (k i : Nat) (s₀ s : Shared) (Hw H : Hp) (cr : Addr → Obj → Prop) (nw gl d e it p1 a1 m1 : Addr) (v4 v6 : Option V), i + k = gs.length → (∀ b, HF b ≠ none → b ≠ nw ∧ b ≠ gl ∧ b ≠ d) → L < s₀.heap.objs.size → Stage L a gs o HF i s₀ Hw cr nw gl d →
      GenPin a g (pinsBy s₀.heap fun b o => L < b ∧ Hw b = none ∧ cr b o) →
      Inv (gX P w K mg base f cd A outer L s₀ Hw (pinsBy s₀.heap fun b o => L < b ∧ Hw b = none ∧ cr b o)) [] [some (.ref p1), some (.ref a1), some (.ref m1), some (.ref nw), v4, some (.ref d), v6] H s →
      ((∃ old, IsEnum s.heap e it ((i : Nat) : Int) old) ∧ s.heap.IsListIter it gl i ∧ e ≠ it) →
      (∀ b ∈ [e, it], FpOk (gX P w K mg base f cd A outer L s₀ Hw (pinsBy s₀.heap fun b o => L < b ∧ Hw b = none ∧ cr b o)) [] H b) →
      H nw = some (.lst (nv (plays (gs.take i) o))) → Rd H gl (.lst (nv gs)) → DkAt H d → (i = 0 → H gl = some (.lst (nv gs)) ∧ H d = some (.dK [])) →
      (L < e ∧ L < it) → (∀ b, b = nw ∨ b = gl ∨ b = d → b ≠ L ∧ b ∉ frs outer ∧ base.get? b = none) → (gl ≠ nw ∧ d ≠ nw ∧ d ≠ gl) → (∀ b u, b ≠ nw → Hw b = some u → H b = some u) → Grown Hw H →
      Seg (model P w) A (RG P w outer L a gs o HF) (YG P w K mg base outer L a g gs o HF) k s₀ (.forLoop (forTg (gSt 2)) (.ref e) (forBd (gSt 2)) [] (envOfC "orders_after" gSc L f cd))
        ((model P w).den (.forLoop (forTg (gSt 2)) (.ref e) (forBd (gSt 2)) [] (envOfC "orders_after" gSc L f cd)))
        (.ret kb none (id false) (id []) (.func (C8.fnBody (top 24)) (envOfC "orders_after" gSc L f cd)) p0 [] :: []) s := by
  intro k
  induction k with
  | zero =>
    intro i s₀ s Hw H cr nw gl d e it p1 a1 m1 v4 v6 hik iso hsz S gp I tn fp hnw hgl hdk hz gt own dis gr gw
    have ov : A.over (.forLoop (forTg (gSt 2)) (.ref e) (forBd (gSt 2)) [] (envOfC "orders_after" gSc L f cd)) (.ret kb none (id false) (id []) (.func (C8.fnBody (top 24)) (envOfC "orders_after" gSc L f cd)) p0 [] :: []) = A.deeper (envOfC "orders_after" gSc L f cd) := (over_loop rfl rfl).trans over_func
    have T : Turn P w K (forTg (gSt 2)) (Ite K gl) [e, it] e (fun i h => (∃ old, IsEnum h e it ((i : Nat) : Int) old) ∧ h.IsListIter it gl i ∧ e ≠ it) := turn_enum gl e it
    refine seg_forL ?_
    rw [ov]
    refine wpAny_mono (T.done (gX P w K mg base f cd A outer L s₀ Hw (pinsBy s₀.heap fun b o => L < b ∧ Hw b = none ∧ cr b o)) rfl rfl rfl rfl i [] s _ H (fun _ _ => False) I fp tn ⟨nv gs, .inl hgl, by rw [nv_len]; omega⟩) (fun r s1 h1 => ?_) fun _ _ z => z
    obtain ⟨hrn, I1⟩ := h1
    subst hrn
    refine seg_leaf (.ok .next) ?_
    rw [hkb]
    refine hK s₀ s1 (.inl ⟨.inl rfl, rfl, I1.os, I1.bare, fun z => ?_, fun z => ⟨keep_of (by omega) S frL dis own gr I1, fun b hb => ?_⟩⟩)
    · obtain ⟨e1, e2, e3, _⟩ := S.first (by omega)
      subst e1 e2
      exact ⟨H, I1.hok, fun b u hb => gr b u (ne_of_none hb e3) hb, unk_of frL I1⟩
    · obtain ⟨_, ⟨m1, n1, q1⟩, _⟩ := S.later (by omega)
      obtain ⟨m2, n2, q2⟩ := hb
      rw [ns_one n2 n1, q1] at q2
      injection q2 with q2
      injection q2 with q2
      rw [← q2]
      have e : gs.take i = gs := List.take_of_length_le (by omega)
      rw [e] at hnw
      exact lst_any (I1.hok nw _ hnw)
  | succ k ih =>
    intro i s₀ s Hw H cr nw gl d e it p1 a1 m1 v4 v6 hik iso hsz S gp I tn fp hnw hgl hdk hz gt own dis gr gw
    have ov : A.over (.forLoop (forTg (gSt 2)) (.ref e) (forBd (gSt 2)) [] (envOfC "orders_after" gSc L f cd)) (.ret kb none (id false) (id []) (.func (C8.fnBody (top 24)) (envOfC "orders_after" gSc L f cd)) p0 [] :: []) = A.deeper (envOfC "orders_after" gSc L f cd) := (over_loop rfl rfl).trans over_func
    have T : Turn P w K (forTg (gSt 2)) (Ite K gl) [e, it] e (fun i h => (∃ old, IsEnum h e it ((i : Nat) : Int) old) ∧ h.IsListIter it gl i ∧ e ≠ it) := turn_enum gl e it
    have pgt : PG (gX P w K mg base f cd A outer L s₀ Hw (pinsBy s₀.heap fun b o => L < b ∧ Hw b = none ∧ cr b o)) (forTg (gSt 2)) (gTup K 2 (gCons (gName 4) (gCons (gName 6) gNil))) :=
      pg_tup rfl (pgs_cons (pg_name (i := 4) gN_nd rfl (Or.inl rfl)) (pgs_cons (pg_name (i := 6) gN_nd rfl (Or.inl rfl)) pgs_nil))
    have hi : i < gs.length := by omega
    obtain ⟨x, hx⟩ : ∃ x, gs[i]? = some x := ⟨gs[i], List.getElem?_eq_getElem hi⟩
    have hxo := okg x (List.mem_of_getElem? hx)
    refine seg_forL ?_
    rw [ov]
    refine wpAny_mono (T.item (gX P w K mg base f cd A outer L s₀ Hw (pinsBy s₀.heap fun b o => L < b ∧ Hw b = none ∧ cr b o)) rfl rfl rfl rfl i [] s _ H (fun _ _ => False) I fp tn ⟨nv gs, iv x, .inl hgl, nv_get hx⟩) (fun r s1 h1 => ?_) fun _ _ z => z
    obtain ⟨u, hu, h1⟩ := h1
    subst hu
    refine wpAny_mono h1 (fun _ s2 h2 => ?_) fun _ _ z => z
    obtain ⟨y, H2, I2, r2, hy, st2, fr2⟩ := h2
    obtain ⟨T0, x0, ey, nT, eH2, hx0⟩ := hy
    have ex0 : x0 = iv x := Option.some.inj ((hx0 _ (.inl hgl)).symm.trans (nv_get hx))
    subst ey ex0 eH2
    have I2' := I2.pinned (fun b hb => ⟨fr2 b hb, (fp b hb).2⟩) (T.obj _ _ st2)
    refine wpAny_mono (pgt.run _ s2 _ _ _ u (fun σ' H' => σ' = [some (.ref p1), some (.ref a1), some (.ref m1), some (.ref nw), some (iv i), some (.ref d), some (iv x)] ∧ H' = upd H T0 (.tup [iv i, iv x])) I2' r2
      ⟨T0, _, rfl, .inl (.inl upd_same), rfl, _, _, rfl, _, _, rfl, rfl, rfl, rfl⟩) (fun _ s3 h3 => ?_) fun _ _ z => z
    obtain ⟨σ3, H3, I3, e1, e2⟩ := h3
    subst e1 e2
    have n1 : nw ≠ T0 := ne_of_none hnw nT
    have g3 : ∀ b u, b ≠ nw → Hw b = some u → (upd H T0 (.tup [iv i, iv x])) b = some u := fun b u hb hu => by
      have q := gr b u hb hu
      rw [upd_ne (ne_of_none q nT)]
      exact q
    have up3 : ∀ b u, b ≠ nw → H b = some u → (upd H T0 (.tup [iv i, iv x])) b = some u := fun b u hb hu => by
      rw [upd_ne (ne_of_none hu nT)]
      exact hu
    show Seg _ _ _ _ _ _ _ ((execs [gIf, .Expr (.Yield (some (ylE gYl)) (ylP gYl)) (exP gYl)] (envOfC "orders_after" gSc L f cd)).wrap _ _ _ _) _ _
    refine seg_execs_cons (seg_wrap ?_)
    rw [ov]
    refine wpAny_mono (run_gIf (o := plays (gs.take i) o) (g := x) (i := i) hr cE cX I3 rfl rfl rfl rfl (by rw [upd_ne n1]; exact hnw) (dk_mono hdk up3 dis.2.1) hxo.1 (by rw [plays_len]; exact hxo.2)) (fun fl s4 h4 => ?_) fun _ _ z => z.elim
    obtain ⟨efl, H4, I4, hn4, k4, w4⟩ := h4
    subst efl
    refine seg_execs_cons (seg_Expr_Yield rfl rfl rfl ?_)
    rw [ov]
    refine wpAny_mono (run_gYl (o := step (plays (gs.take i) o) x) G I4 rfl hn4) (fun v s5 h5 => ?_) fun _ _ z => z.elim
    obtain ⟨p, ev, np, I5⟩ := h5
    rw [← plays_take hx] at I5 hn4
    intro kap hk
    have g4 : ∀ b u, b ≠ nw → Hw b = some u → H4 b = some u := fun b u hb hu => k4 b u hb (g3 b u hb hu)
    have pnw : p ≠ nw := (ne_of_none hn4 np).symm
    have gl4 : Rd H4 gl (.lst (nv gs)) := rd_mono (rd_mono hgl up3 dis.1) k4 dis.1
    have d4 : DkAt H4 d := dk_mono (dk_mono hdk up3 dis.2.1) k4 dis.2.1
    have pgl : p ≠ gl := by
      rcases gl4 with z | ⟨ob, z⟩
      · exact (ne_of_none z np).symm
      · exact (ne_of_none z np).symm
    have pd : p ≠ d := by
      rcases d4 with z | ⟨ob, z⟩
      · exact (ne_of_none z np).symm
      · exact (ne_of_none z np).symm
    have up5 : ∀ b u, b ≠ nw → H4 b = some u → (upd H4 p (.lst (nv (plays (gs.take (i + 1)) o)))) b = some u := fun b u _ hu => by
      rw [upd_ne (ne_of_none hu np)]
      exact hu
    have gr5 : ∀ b u, b ≠ nw → Hw b = some u → (upd H4 p (.lst (nv (plays (gs.take (i + 1)) o)))) b = some u := fun b u hb hu => up5 b u hb (g4 b u hb hu)
    have gw5 : Grown Hw (upd H4 p (.lst (nv (plays (gs.take (i + 1)) o)))) := ((gw.upd (p := T0) (o := .tup [iv i, iv x]) True.intro).trans w4).upd True.intro
    obtain ⟨m5, ns5, hl5⟩ := loc_of I5
    obtain ⟨u5, r5, e5⟩ := hl5 3 "now" (.ref nw) rfl rfl (by decide +kernel)
    obtain rfl : u5 = Value.ref nw := r5
    have st5 := T.keep _ _ s5.heap st2 fun b hb ob eb => (I5.pin (b, ob) (List.mem_append_right _ (List.mem_append_right _ (mem_pinsAt hb eb)))).1
    have bz : base.objs.size ≤ L := by
      have q : base.objs.size ≤ (cutH s₀.heap L).objs.size := I5.ok.bsz
      rw [cutH_size (Nat.le_of_lt hsz)] at q
      exact q
    have pL : p ≠ L := fun z => by
      have q : (upd H4 p (.lst (nv (plays (gs.take (i + 1)) o)))) L = none := I5.free
      rw [← z, upd_same] at q
      cases q
    have nw5 : (upd H4 p (.lst (nv (plays (gs.take (i + 1)) o)))) nw = some (.lst (nv (plays (gs.take (i + 1)) o))) := by
      rw [upd_ne pnw.symm]
      exact hn4
    have gen5 : s5.heap.IsGen a g := by
      obtain ⟨og, nm, qn, hm, c1, c2, c3⟩ := gp
      exact ⟨og, nm, qn, (I5.pin (a, og) (List.mem_append_left _ hm)).1, c1, c2, c3⟩
    have lp : LoopAt P w base outer L gs o (i + 1) nw gl d e it s5.heap := ⟨⟨m5, ns5, e5, p1, a1, m1, some (iv i), some (iv x), hl5⟩, st5.1, st5.2.1, st5.2.2, lst_any (I5.hok nw _ nw5), rd_lst I5.hok (rd_mono gl4 up5 dis.1), rd_dk I5.hok (dk_mono d4 up5 dis.2.1), gt, own, dis⟩
    refine ⟨i, nw, gl, d, e, it, p, by omega, ev, I5.os, I5.bare, lp, lst_any (I5.hok p _ upd_same), gen5, iso, pL, ⟨⟨I5.mod, fun b o e => (I5.bs b o e).1, bz, I5.funs, frL, I5.bare, I5.lt⟩, lp, gen5⟩, fun hi0 => ?_, fun hi0 => ⟨(S.later hi0).2.1, keep_of hi0 S frL dis own gr5 I5, pnw, pgl, pd, fun ob hob hcr => ?_⟩, fun s6 R6 => hk .none s6 ?_⟩
    · subst hi0
      obtain ⟨q1, q2, q3, q4, q5⟩ := S.first rfl
      subst q1 q2
      refine ⟨_, I5.hok, fun b u hb => gr5 b u (ne_of_none hb q3) hb, gw5, q3, q4, q5, ?_, pnw, pgl, pd, nw5, ?_, ?_, upd_same, I5.free, unk_of frL I5⟩
      · cases hp : Hw p with
        | none => rfl
        | some u =>
          rw [g4 p u pnw hp] at np
          cases np
      · exact up5 gl _ dis.1 (k4 gl _ dis.1 (up3 gl _ dis.1 (hz rfl).1))
      · exact up5 d _ dis.2.1 (k4 d _ dis.2.1 (up3 d _ dis.2.1 (hz rfl).2))
    · have hwp : Hw p = none := by
        cases hp : Hw p with
        | none => rfl
        | some u =>
          rw [g4 p u pnw hp] at np
          cases np
      have hcr' : p < L ∨ (L < p ∧ cr p ob) := by
        rw [(S.later hi0).1]
        exact hcr
      have z := (unk_of frL I5 p ob hob hwp hcr').1
      rw [upd_same] at z
      cases z
    · obtain ⟨Hw', cr', p1', a1', m1', v4', v6', S', b1, b2, b3, b4, b5, b6⟩ := wake_later (HF := HF) (f := f) (cd := cd) (Nat.succ_pos i) hd hfr la R6
      show Seg _ _ _ _ _ _ _ ((execs [] _).wrap _ _ _ _) _ _
      refine seg_execs_nil (seg_again rfl ?_)
      exact ih (i + 1) s6 s6 Hw' Hw' cr' nw gl d e it p1' a1' m1' v4' v6' (by omega) iso R6.woke.lt S' b4 b6 ⟨R6.loop.en, R6.loop.li, R6.loop.ne⟩ b5 b1 b2 b3 (fun z => absurd z (Nat.succ_ne_zero i)) gt own dis (fun _ _ _ z => z) (Grown.refl Hw')
end
end K76
namespace K76
open PySem PySem.Spec PyProof.Rows L2 GenW
section
variable {X : Cx}
/-- name = {..} on one line, the name a local -/
theorem ps_setDc {i : Nat} {y : Str} {py : Pos} {kx vx tg iter : Expr} {ifs : List Expr} {scope : Scope} {own : List (Str × Nat)} {pos spos : Pos} {wi : TI} {g : TG} {tt : TT} {tk tv : TE} (hc : X.calm = true) (hN : X.N.Nodup)
    (hy : X.N[i]? = some y) (hyl : X.env.scope.names.lookup y = some .local) (hsw : swapsWith (.DictComp kx vx [⟨tg, iter, ifs, 0⟩] scope pos) (some (.Name y py)) spos.line X.env = pure true)
    (hi : PI X tg iter wi) (ok : BlkOk X.N X.env.scope scope own)
    (hg : ∀ (s : Shared) (H : Hp) (C : Addr) (cl : List (Str × Addr)) (fp : List Addr), PG (X.blk s H scope (compEnvC scope cl C X.env) fp) tg g)
    (ht : ∀ (s : Shared) (H : Hp) (C : Addr) (cl : List (Str × Addr)) (fp : List Addr), PTs (X.blk s H scope (compEnvC scope cl C X.env) fp) ifs tt)
    (hkx : ∀ (s : Shared) (H : Hp) (C : Addr) (cl : List (Str × Addr)) (fp : List Addr), PE (X.blk s H scope (compEnvC scope cl C X.env) fp) kx tk)
    (he : ∀ (s : Shared) (H : Hp) (C : Addr) (cl : List (Str × Addr)) (fp : List Addr), PE (X.blk s H scope (compEnvC scope cl C X.env) fp) vx tv)
    (hs : ∀ x, foldedSetIterable iter X.env x = pure x := by intro _; rfl) :
    PS X (.Assign [.Name y py] (.DictComp kx vx [⟨tg, iter, ifs, 0⟩] scope pos) spos) (tAsg (tDc wi g tt tk tv (own.map (·.2))) (gName i)) := by
  refine ⟨fun pins s σ H D I hyp => ?_⟩
  have h := hyp
  rw [exec_Assign_Name_used (hs := hsw)]
  refine wpAny_bind ?_
  refine wpAny_standAt ?_
  refine wpAny_bind ?_
  show wpAny _ X.A (do let _ ← comprehension (.DictComp kx vx [⟨tg, iter, ifs, 0⟩] scope pos) scope X.env (firstIterPos [⟨tg, iter, ifs, 0⟩] pos) newDict false (eval iter X.env) (some (assign (.Name y py) X.env))) _ _ s
  have h0 : tDc wi g tt tk tv (own.map (·.2)) σ H (fun x H1 => gName i x σ H1 D.nx) := h
  refine wpAny_bind (thn (dc_core (Qf := fun _ s' => L2.SP X pins D .next s') hc hN I hi ok hg ht hkx he hs h0 fun L C s' m H' I' q hn f => ?_) fun _ s' hq => wpAny_pure (wpAny_pure hq))
  show wpAny _ X.A (assign (.Name y py) X.env (.ref L)) _ _ _
  refine wpAny_assign_Name ?_
  refine store_ok2 (v := V.ref L) I' hN hy (.inl hyl) rfl (fun s2 I2 hst => ?_) (.inr hyl)
  obtain ⟨a, sb, ha⟩ := hst
  obtain ⟨f0, f1, _, f3, f4, f5⟩ := f
  have haC : C ≠ a := ha.elim (fun z => by rw [z]; exact f1) fun z e => f4 y a z e.symm
  exact ⟨m, hn.sameBut sb haC, fun h3 sb3 => ⟨_, H', I2.turned (t' := s2.toks) (fun b o hb e => (sb3.2 b hb).trans e) f0 f1 f3 f4 f5, q⟩⟩
/-- a statement run to its end -/
theorem ps_next {st : Stmt} {t : TS} (h : PS X st t) {pins : List (Addr × Obj)} {s : Shared} {σ : L2.St} {H : Hp} {N : L2.St → Hp → Prop} (I : Inv X pins σ H s) (q : t { nx := N, rt := fun _ _ => False } σ H) :
    wpAny (model X.prog X.w) X.A (exec st X.env) (fun f s' => f = .next ∧ ∃ σ' H', Inv X pins σ' H' s' ∧ N σ' H') X.xe s := by
  refine wpAny_mono (h.run pins s σ H _ I q) (fun f s' z => ?_) fun _ _ z => z
  cases f with
  | next =>
    obtain ⟨σ', H', I', n⟩ := z
    exact ⟨rfl, σ', H', I', n⟩
  | brk => obtain ⟨_, _, _, z⟩ := z; exact z.elim
  | cont => obtain ⟨_, _, _, z⟩ := z; exact z.elim
  | ret u => obtain ⟨_, _, _, _, _, z⟩ := z; exact z.elim
end
def gArg : Expr := match forIt (gSt 2) with | .Call _ (e :: _) _ _ => e | e => e
def gEn : Pos := match forIt (gSt 2) with | .Call (.Name _ p) _ _ _ => p | _ => ⟨0, 0, 0, 0⟩
def gEp : Pos := match forIt (gSt 2) with | .Call _ _ _ p => p | _ => ⟨0, 0, 0, 0⟩
theorem gIt_eq : forIt (gSt 2) = .Call (.Name "enumerate" gEn) [gArg] [] gEp := rfl
theorem sqt_same {K : PySem.W.Frag} {H H1 : Hp} {a : Addr} {xs : List V} (s : Same H H1) (h : SqT K H a xs) : SqT K H1 a xs := by
  rcases h with (z | ⟨ob, z⟩) | z
  · exact .inl (.inl (s.at z))
  · exact .inl (.inr ⟨ob, s.at z⟩)
  · exact .inr z
section
variable {P : Program} {w : World} {K : PySem.W.Frag} {mg : Str → Option Value} {base : Heap} {C f : Addr} {cd : Value} {A : Around} {outer : List Env} {L a g : Addr} {gs o : List Nat} {HF : Hp}
/-- the first wake: the body from its head -/
theorem seg_fresh (G : Gs K mg) (hr : Room 1 (A.deeper (envOfC "orders_after" gSc L f cd))) (cE : C8.Cal P w K mg base 1 "is_exchanged" (spBad K) []) (cX : C8.Cal P w K mg base 1 "exchange" (spSwap K) [])
    (cG : C8.Met P w K mg base 1 C "gates" (spGates C) []) (hd : A.handled = none) (hfr : A.frames = some outer) (la : L < a) (frL : ∀ b ∈ frs outer, b < L) (okg : ∀ x ∈ gs, 1 ≤ x ∧ x < o.length)
    {s2 : Shared} {p a0 mt : Addr} {n : Nat} (hlen : o.length ≤ 12) (hsz : L < s2.heap.objs.size) (fL : ∀ b u, HF b = some u → b < s2.heap.objs.size)
    (I : Inv (gX P w K mg base f cd A outer L s2 HF (pinsBy s2.heap fun b o => L < b ∧ HF b = none ∧ CritF b o)) [] (start gN [.ref p, .ref a0, .ref mt]) HF s2)
    (gp : GenPin a g (pinsBy s2.heap fun b o => L < b ∧ HF b = none ∧ CritF b o)) (S1 : Sch C HF p n gs) (ho : HF a0 = some (.lst (nv o))) (hm : SqT K HF mt []) :
    Seg (model P w) A (RG P w outer L a gs o HF) (YG P w K mg base outer L a g gs o HF) gs.length s2 (.func (C8.fnBody (top 24)) (envOfC "orders_after" gSc L f cd))
      ((model P w).den (.func (C8.fnBody (top 24)) (envOfC "orders_after" gSc L f cd))) [] s2 := by
  have ov : A.over (.func (C8.fnBody (top 24)) (envOfC "orders_after" gSc L f cd)) [] = A.deeper (envOfC "orders_after" gSc L f cd) := over_func
  refine seg_func ?_
  show Seg _ _ _ _ _ _ _ ((execs [gSt 0, gSt 1, .For (forTg (gSt 2)) (forIt (gSt 2)) (forBd (gSt 2)) [] (forPos (gSt 2))] (envOfC "orders_after" gSc L f cd)).wrap _ _ _ _) _ _
  refine seg_execs_cons (seg_wrap ?_)
  rw [ov]
  have p0 : PS (gX P w K mg base f cd A outer L s2 HF (pinsBy s2.heap fun b o => L < b ∧ HF b = none ∧ CritF b o)) (gSt 0) _ := ps_set (i := 3) gN_nd rfl (Or.inl rfl) (pe_callTy call_list_of (by rfl) G.list (by decide +kernel) (pa_cons (pv 1) pa_nil))
  refine wpAny_mono (ps_next p0 (N := fun σ H => ∃ nw, HF nw = none ∧ σ = [some (.ref p), some (.ref a0), some (.ref mt), some (.ref nw), none, none, none] ∧ H = upd HF nw (.lst (nv o))) I ?_) (fun fl s3 h3 => ?_) fun _ _ z => z.elim
  · exact ⟨.ref a0, rfl, a0, _, rfl, .inl (SqL.of ho), fun nw nn => ⟨nw, nn, rfl, rfl⟩⟩
  obtain ⟨efl, σ3, H3, I3, nw, nwN, eσ, eH⟩ := h3
  subst efl eσ eH
  refine seg_execs_cons (seg_wrap ?_)
  rw [ov]
  have p1 : PS (gX P w K mg base f cd A outer L s2 HF (pinsBy s2.heap fun b o => L < b ∧ HF b = none ∧ CritF b o)) (gSt 1) _ := ps_setDc (i := 5) (own := [("at", 4)]) (g := gName 4) (tt := tYes) rfl gN_nd rfl (show gSc.names.lookup ("left" : Str) = some NameKind.local by decide +kernel)
    (by rfl) (pi_tup (pv 2)) (blkOk_by (N := gN) (sc := gSc) (by decide +kernel)) (fun _ _ _ _ _ => pg_name (i := 4) gN_nd rfl (Or.inl rfl)) (fun _ _ _ _ _ => pts_nil) (fun _ _ _ _ _ => pv 4) (fun _ _ _ _ _ => pe_bl)
  refine wpAny_mono (ps_next p1 (N := fun σ H => ∃ d, (upd HF nw (.lst (nv o))) d = none ∧ σ = [some (.ref p), some (.ref a0), some (.ref mt), some (.ref nw), none, some (.ref d), none] ∧ H = upd (upd HF nw (.lst (nv o))) d (.dK [])) I3 ?_) (fun fl s4 h4 => ?_) fun _ _ z => z.elim
  · refine ⟨.ref mt, rfl, mt, rfl, ⟨[], sqt_same (Same.new nwN) hm⟩, fun D nD => dc_tup (K := K) (a := mt) (xs := []) (fun i H2 => H2 = upd (upd HF nw (.lst (nv o))) D (.dK [])) rfl
      (fun i H2 _ e => by rw [e]; exact sqt_same ((Same.new nwN).upd nD) hm) (fun i x H2 hx _ => by cases hx) (fun H2 e => ⟨D, nD, rfl, e⟩)⟩
  obtain ⟨efl, σ4, H4, I4, d, dN, eσ, eH⟩ := h4
  subst efl eσ eH
  refine seg_execs_cons (seg_forS (fun x => rfl) ?_)
  rw [ov]
  have s4s : Same HF (upd (upd HF nw (.lst (nv o))) d (.dK [])) := (Same.new nwN).upd dN
  obtain ⟨dx, r, ts, S2, S3, S4, S5⟩ := id S1
  have pa : PA (gX P w K mg base f cd A outer L s2 HF (pinsBy s2.heap fun b o => L < b ∧ HF b = none ∧ CritF b o)) [gArg] _ := pa_cons (C8.pe_mt0 cG hr (by decide) (pv 0)) pa_nil
  show wpAny _ _ (eval (.Call (.Name "enumerate" gEn) [gArg] [] gEp) _) _ _ _
  refine Call_ (ld_blt I4 (by rfl) G.enum boot_enumerate (PyProof.Rows.callWith_type1 (thn (pa.run _ [] s4 _ _ (fun vs H' => ∃ gl, vs = [.ref gl] ∧ (upd (upd HF nw (.lst (nv o))) d (.dK [])) gl = none ∧ Same (upd (upd HF nw (.lst (nv o))) d (.dK [])) H' ∧ Grown (upd (upd HF nw (.lst (nv o))) d (.dK [])) H' ∧ H' gl = some (.lst (nv gs))) I4
    ⟨.ref p, rfl, p, dx, _, rfl, s4s.at S2, flds_no_gates _ _, p, n, gs, rfl, Sch.same s4s S1, fun gl H' e1 e2 e3 e4 => ⟨gl, rfl, e1, e2, e3, e4⟩⟩) fun us s5 h5 => ?_) rfl rfl))
  obtain ⟨vs, H5, I5, r5, gl, evs, glN, s5s, g5, e5⟩ := h5
  subst evs
  cases r5 with
  | cons r rr =>
    cases rr
    cases r
    obtain ⟨its, rv, p', hz⟩ := I5.list (SqL.of e5)
    refine call_enumerate_list p'.isList fun h' he hit hsz' hk => wpAny_pyIter_enum he fun kb pp hkb => ?_
    have I6 := I5.kept (t' := s5.toks) hk
    have lt5 : L < s5.heap.objs.size := I5.lt
    have nwd : nw ≠ d := ne_of_none upd_same dN
    have nwgl : nw ≠ gl := ne_of_none (by rw [upd_ne nwd, upd_same]) glN
    have dgl : d ≠ gl := ne_of_none upd_same glN
    have e5n : H5 nw = some (.lst (nv o)) := s5s.at (by rw [upd_ne nwd, upd_same])
    have e5d : H5 d = some (.dK []) := s5s.at upd_same
    have own : ∀ b u, H5 b = some u → b ≠ L ∧ b ∉ frs outer ∧ base.get? b = none := fun b u hb => by
      refine ⟨fun z => ?_, fun z => ?_, ?_⟩
      · have q : H5 L = none := I5.free
        rw [← z, hb] at q
        cases q
      · have q := I5.stkFree b (List.mem_filterMap.mpr (by
          obtain ⟨y, hy, hz⟩ := List.mem_filterMap.mp z
          exact ⟨y, List.mem_cons_of_mem _ hy, hz⟩))
        rw [hb] at q
        cases q
      · cases q : base.get? b with
        | none => rfl
        | some ob =>
          have q2 := (I5.bs b ob q).2
          rw [hb] at q2
          cases q2
    have out : ∀ b, s5.heap.objs.size ≤ b → ∀ ob, s2.heap.get? b = some ob → HF b = none → ¬ CritF b ob := fun b hb ob eb hn hc => by
      have q := (I5.pin (b, ob) (List.mem_append_left _ (mem_pinsBy eb ⟨Nat.lt_of_lt_of_le lt5 hb, hn, hc⟩))).1
      exact absurd (Heap.lt_size q) (Nat.not_lt.mpr hb)
    refine seg_loop G hr cE cX hd hfr la frL okg hkb (fun s₀ s h => ?_) gs.length 0 s2 _ HF H5 CritF nw gl d (s5.heap.objs.size + 1) s5.heap.objs.size p a0 mt none none (Nat.zero_add _) (fun b hb => ⟨fun z => hb (by rw [z]; exact nwN), fun z => hb ?_, fun z => hb ?_⟩) hsz
      ⟨fun _ => ⟨rfl, rfl, nwN, ?_, ?_⟩, fun z => absurd z (Nat.lt_irrefl 0)⟩ gp I6 ⟨⟨.none, he⟩, hit, Nat.succ_ne_self _⟩
      (fp_ok hsz frL (Nat.lt_succ_of_lt lt5) lt5 (I5.hok.fresh (Nat.le_succ _)) (I5.hok.fresh (Nat.le_refl _)) (out _ (Nat.le_succ _)) (out _ (Nat.le_refl _)))
      e5n (.inl e5) (.inl e5d) (fun _ => ⟨e5, e5d⟩) ⟨Nat.lt_succ_of_lt lt5, lt5⟩ (fun b hb => ?_) ⟨nwgl.symm, nwd.symm, dgl⟩ (fun b u _ hb => s5s.at (s4s.at hb)) ?_
    · exact seg_execs_nil (seg_end (.ok (.ret .none)) h)
    · rw [z]
      cases q : HF gl with
      | none => rfl
      | some u =>
        rw [s4s.at q] at glN
        cases glN
    · rw [z]
      cases q : HF d with
      | none => rfl
      | some u =>
        rw [(Same.new nwN).at q] at dN
        cases dN
    · cases q : HF gl with
      | none => rfl
      | some u =>
        rw [s4s.at q] at glN
        cases glN
    · cases q : HF d with
      | none => rfl
      | some u =>
        rw [(Same.new nwN).at q] at dN
        cases dN
    · rcases hb with z | z | z
      · exact own b _ (by rw [z]; exact e5n)
      · exact own b _ (by rw [z]; exact e5)
      · exact own b _ (by rw [z]; exact e5d)
    · refine Grown.trans (Grown.upd (Grown.upd (Grown.refl HF) ?_) ?_) g5 <;> exact True.intro
end
end K76
namespace K76
open PySem PySem.Spec PyProof.Rows L2 GenW
/-! ### a call of orders_after: a generator that has not begun -/
structure GenMade (base : Heap) (outer : List Env) (H : Hp) (s : Shared) (f : Addr) (cd : Value) (p a0 mt L a g : Addr) (s' : Shared) : Prop where
  La : L < a
  keep : ∀ b o, s.heap.get? b = some o → s'.heap.get? b = some o
  gen : s'.heap.IsGen a g
  st : s'.gens[g]? = some (.fresh (.func (C8.fnBody (top 24)) (envOfC "orders_after" gSc L f cd)))
  os : s'.os = s.os
  bare : AllBare s'.gens
  loc : ∃ m, s'.heap.Ns L m ∧ ∀ (i : Nat) (x : Str) (v : V), gN[i]? = some x → (start gN [.ref p, .ref a0, .ref mt])[i]? = some (some v) → gSc.names.lookup x = some .local → ∃ u, RelV v u ∧ m x = some u
  bsz : base.objs.size ≤ L
  frL : ∀ b ∈ frs outer, b < L
  hL : H L = none
  old : ∀ b, H b ≠ none → b < L
  ha : H a = none
  Lsz : s.heap.objs.size = L
/-- what the walk asks of the def -/
structure GD (K : PySem.W.Frag) (mg : Str → Option Value) (T0 f : Addr) (fd : FuncData) : Prop where
  F : FunD K "orders_after" "orders_after" (C8.fnArgs (top 24)) (C8.fnBody (top 24)) gSc [] [("missed", .ref T0)] f fd
  mgf : mg "orders_after" = some (.ref f)
theorem gScope : GScope gN ["schedule", "order", "missed"] gSc := by
  refine ⟨rfl, rfl, rfl, gN_nd, by decide +kernel, ?_, fun y hy => (gSc_nc y hy).2⟩
  intro x hx
  have h : (["schedule", "order", "missed"] : List Str).all (fun x => decide (gSc.names.lookup x = some NameKind.local)) = true := by decide +kernel
  exact .inl (of_decide_eq_true (List.all_eq_true.mp h x hx))
section
variable {P : Program} {w : World} {K : PySem.W.Frag} {mg : Str → Option Value} {base : Heap} {A : Around} {outer : List Env} {H : Hp} {s : Shared} {T0 f : Addr} {fd : FuncData} {p a0 mt : Addr}
theorem gen_code (D : GD K mg T0 f fd) (hr : Room 2 A) (e0 : Env0 P w K mg base A outer s H) :
    ∃ cd, codeAny (model P w) A (.call (.ref f) ⟨[.ref p, .ref a0], (["missed"] : List Str).zip [.ref mt]⟩) (fun r s' => ∃ L a g, r = .ok (.ret (.ref a)) ∧ GenMade base outer H s f cd p a0 mt L a g s') s := by
  obtain ⟨mv, kb⟩ := D.F.kbinds0 (ps := ["schedule", "order", "missed"]) 2 ["missed"] [] (fun us _ ws => us ++ ws) (by simp) (fun q hq => by cases hq) (fun r1 _ r3 => r1.append r3) (fun D doc pm an cdv ct us mv ws hu _ hw => by
    match us, ws, hu, hw with
    | [u1, u2], [w1], _, _ => rfl)
  obtain ⟨oc, od, dV, kV, doc, pm, an, cdv, ct, osl, efd, lk, hcd, _, _⟩ := D.F.ex
  subst efd
  refine ⟨cdv, ?_⟩
  have kp0 : ∀ b o, base.get? b = some o → s.heap.get? b = some o := fun b o e => (e0.bs b o e).1
  have KX : K.In s.heap := e0.mod.kin.keeps kp0
  have lim : s.heap.NoLimit := e0.mod.nolimit.keeps kp0
  have hkind : ∀ y ∈ (["schedule", "order", "missed"] : List Str).zip [Value.ref p, .ref a0, .ref mt], gSc.names.lookup y.1 = some .local ∨ (gSc.names.lookup y.1 = some .cell ∧ ((cellsFrom (s.heap.objs.size + 1) gSc.names []).lookup y.1).isSome = true) := fun ⟨n, v⟩ hy => by
    rcases gScope.par n (List.of_mem_zip hy).1 with q | q
    · exact .inl q
    · exact absurd rfl (gSc_nc _ (PySem.mem_of_lookup q)).1
  refine codeAny_call_generator hr.depth (KX _ _ lk) rfl rfl rfl rfl (PySem.W.codeRec_of KX hcd) (kb.to s [.ref p, .ref a0] [.ref mt] KX rfl rfl _ _ _ _ ?_)
  refine wpAny_newFunctionEnv_cells (scope := gSc) rfl hkind fun env he s1 x => ?_
  subst he
  have kp1 := x.toInCall.keep
  have lim1 : s1.heap.NoLimit := lim.keeps kp1
  refine ⟨lim1, ?_⟩
  have r : Vals [V.ref p, .ref a0, .ref mt] [Value.ref p, .ref a0, .ref mt] := .cons rfl (.cons rfl (.cons rfl .nil))
  have I1 : Inv (gcxOf P w K mg base gN "orders_after" gSc f cdv A outer s H E0 []) [] (start gN [.ref p, .ref a0, .ref mt]) H s1 := inv_startG gScope hr.hd e0 rfl r x
  obtain ⟨h1, tk1, es1, _⟩ := x.done
  have lt1 := x.toInCall.ns.lt
  refine ⟨s.heap.objs.size, s1.heap.objs.size, s1.gens.size, rfl, lt1, fun b o e => Heap.get?_push_of_some _ (x.toInCall.keep b o e), ?_, Array.getElem?_push_size .., ?_, ?_, ?_, e0.bsz, fun b hb => ?_, e0.hok.fresh (Nat.le_refl _), fun b hb => ?_, I1.hok.fresh (Nat.le_refl _), rfl⟩
  · exact ⟨_, _, _, Heap.get?_push_size _ rfl, rfl, rfl, rfl⟩
  · rw [es1]
  · refine AllBare.push ?_ rfl
    rw [es1]
    exact e0.bare
  · obtain ⟨m, hn, hl⟩ := I1.loc
    refine ⟨m, hn.push _, fun i x v e1 e2 e3 => ?_⟩
    obtain ⟨u, ru, l⟩ := hl i x v e1 e2 (.inl e3)
    rcases l with ⟨_, l⟩ | ⟨l, _⟩
    · exact ⟨u, ru, l⟩
    · have l' : gSc.names.lookup x = some .cell ∨ gSc.names.lookup x = some .free := l
      rcases l' with z | z <;> (rw [e3] at z; cases z)
  · obtain ⟨_, o₀, e₀, _⟩ := e0.funs.mem hb
    exact Heap.lt_size e₀
  · refine Nat.lt_of_not_le fun hle => ?_
    exact hb (e0.hok.fresh hle)
/-- the first wake's invariant -/
theorem wake_first {L a g : Nat} {cd : Value} {s' s2 : Shared} {A' : Around} (M : GenMade base outer H s f cd p a0 mt L a g s') (hd : A'.handled = none) (hfr : A'.frames = some outer) (mod : Mod K mg base)
    (bs : ∀ b o, base.get? b = some o → s2.heap.get? b = some o ∧ H b = none) (funs : s2.heap.FunFrames base outer) (frf : ∀ b ∈ frs outer, H b = none) (hok : HOk P w H s2.heap) (bare : AllBare s2.gens)
    (k : ∀ b o, L ≤ b → s'.heap.get? b = some o → s2.heap.get? b = some o) :
    Inv (gX P w K mg base f cd A' outer L s2 H (pinsBy s2.heap fun b o => L < b ∧ H b = none ∧ CritF b o)) [] (start gN [.ref p, .ref a0, .ref mt]) H s2 ∧
      GenPin a g (pinsBy s2.heap fun b o => L < b ∧ H b = none ∧ CritF b o) := by
  obtain ⟨m, ⟨o, es, ep, hm, hr⟩, hl⟩ := M.loc
  have ns2 : s2.heap.Ns L m := ⟨o, es, ep, k _ _ (Nat.le_refl _) hm, hr⟩
  obtain ⟨og, nm, qn, eg, cg, dg, sg⟩ := M.gen
  have eg2 := k _ _ (Nat.le_of_lt M.La) eg
  refine ⟨inv_wake gSc_nc rfl ⟨mod, fun b o e => (bs b o e).1, M.bsz, funs, M.frL, bare, ns2.lt⟩ hd hfr (fun b o e => (bs b o e).2) frf hok M.hL ⟨m, ns2, hl⟩ rfl (fun q hq => ?_), og, nm, qn, mem_pinsBy eg2 ⟨M.La, M.ha, fun v q => by rw [dg] at q; cases q⟩, cg, dg, sg⟩
  obtain ⟨q1, q2, q3, q4⟩ := of_pinsBy hq
  exact ⟨q1, q3, Nat.ne_of_gt q2, fun hf => absurd (M.frL _ hf) (Nat.lt_asymm q2), q4⟩
end
end K76
namespace K76
open PySem PySem.Spec PyProof.Rows L2 GenW
/-! ### who draws from the generator -/
theorem obj_there {P : Program} {w : World} {H : Hp} {h : Heap} {a : Addr} {o : HO} (x : ObjOk P w H h a o) : ∃ ob, h.get? a = some ob := by
  cases o with
  | lst xs => obtain ⟨_, _, _, _, e1⟩ := x; exact ⟨_, e1⟩
  | tup xs => obtain ⟨_, _, _, ob, e, _⟩ := x; exact ⟨_, e⟩
  | dK kvs => obtain ⟨_, _, _, _, o, _, _, e, _⟩ := x; exact ⟨_, e⟩
  | dT kvs => obtain ⟨_, _, _, _, o, _, _, e, _⟩ := x; exact ⟨_, e⟩
  | set S n => obtain ⟨o, _, _, _, e, _⟩ := x; exact ⟨_, e⟩
  | ins C dx fs => obtain ⟨_, _, _, e1, _⟩ := x; exact ⟨_, e1⟩
  | own y => exact x
  | xd fs => obtain ⟨_, ⟨_, _, _, e, _⟩, _⟩ := x; exact ⟨_, e⟩
  | rng lo hi => obtain ⟨_, _, _, e1⟩ := x; exact ⟨_, e1⟩
  | frz ob u => exact ⟨_, x.1⟩
  | tbl ps => exact ⟨_, (show h.get? a = some _ from x)⟩
  | met f y => exact ⟨_, (show h.get? a = some _ from x)⟩
  | ext φ => exact x.2.1
/-- plain things bear the look that the generator keeps -/
theorem plain_crit {P : Program} {w : World} {H : Hp} {h : Heap} {a b : Addr} {u : HO} {ob : Obj} (x : ObjOk P w H h b u) (p : Plain u) (e : h.get? b = some ob) : Crit a b ob := by
  have key : (ob.cls = .type "list" ∨ ob.cls = .type "tuple" ∨ ob.cls = .type "dict") ∧ ∀ v, ob.data ≠ .cell v := by
    cases u with
    | lst xs =>
      obtain ⟨_, _, _, _, q⟩ := x
      rw [e] at q
      cases q
      exact ⟨.inl rfl, fun v z => by cases z⟩
    | tup xs =>
      obtain ⟨_, its, _, o2, q, c, n, d⟩ := x
      rw [e] at q
      cases q
      refine ⟨.inr (.inl c), fun v z => ?_⟩
      rw [z] at d
      cases d
    | dK kvs =>
      obtain ⟨_, _, vs, _, o2, es, ep, q, c, d, _⟩ := x
      rw [e] at q
      cases q
      refine ⟨.inr (.inr c.1), fun v z => ?_⟩
      rw [z] at d
      cases d
    | _ => exact p.elim
  obtain ⟨h1, h2⟩ := key
  refine ⟨h2, fun z => ?_, fun z => ?_⟩
  · rw [z] at h1
    exact absurd h1 (by decide)
  · rw [z] at h1
    exact absurd h1 (by decide)
/-- one wake of a generator, by its special method: the item, or the exception that ends it -/
theorem spec_gen {P : Program} {w : World} {A : Around} {E : Value → Shared → Prop} {s : Shared} {a : Addr} {g n : Nat} {gs : GenState} {F : Nat → Shared → Shared → Prop} {Y : Protocol} {Q : Option Value → Shared → Prop} (hh : A.handled = none)
    (nol : s.heap.NoLimit) (deep : A.depth < recursionLimit) (isg : s.heap.IsGen a g) (sta : s.gens[g]? = some gs)
    (goes : gs.Goes (model P w) A.in1 (fun n s₀ r s₁ => ((r = .ok (.ret .none) ∨ r = .ok .next) ∧ F n s₀ s₁) ∨ ∃ e, r = .error e ∧ False) Y n (.send .none) (s.setGen g .running))
    (onY : ∀ v s₁ gs', gs'.bare = true → Y (n - 1) (s.setGen g .running) v s₁ (fun r' s'' => match n with
        | 0 => False
        | m + 1 => gs'.Goes (model P w) A.in1 (fun n s₀ r s₁ => ((r = .ok (.ret .none) ∨ r = .ok .next) ∧ F n s₀ s₁) ∨ ∃ e, r = .error e ∧ False) Y m r' s'') → Q (some v) (s₁.setGen g gs'))
    (onEnd : ∀ s₁, F n (s.setGen g .running) s₁ → ∀ (x : Addr) (h' : Heap), (∀ b o, s₁.heap.get? b = some o → h'.get? b = some o) → (∃ o, h'.get? x = some o ∧ o.cls = .type "StopIteration") → E (.ref x) { s₁.setGen g .finished with heap := h' }) :
    wpAny (model P w) A (callSpecial? (.ref a) "__next__") Q E s := by
  refine wpAny_callSpecial?_slot (name := Str.ofString "__next__") isg.typeIs slot_gen_next (wpAny_call_entry slot_gen_next isg.typeIs entry_gen_next ?_ (args_gen_next _))
  show wpAny (model P w) A.in1 (Builtin.Generator.genWake (.ref a) (.send .none)) _ _ s
  rw [Builtin.Generator.genWake]
  refine wpAny_bind (wpAny_holding (wpAny_genNumber isg ?_))
  refine wpAny_bind (wpAny_genState sta ?_)
  cases gs with
  | running => exact goes.elim
  | finished => exact goes.elim
  | _ =>
    refine wpAny_bind (wpAny_roomToWake nol deep ?_)
    show wpAny (model P w) A.in1 (.resume g (.send .none) [] _) _ _ s
    refine wpAny_resumeQ sta goes (fun x s₁ hx => ?_) fun v s₁ gs' hb hv => wpAny_pure ⟨v, rfl, onY v s₁ gs' hb hv⟩
    rcases hx with ⟨hr, hp⟩ | ⟨e, _, he⟩
    · have res : End.result (.ret x) = .returned .none := by
        rcases hr with hr | hr <;> (rw [hr]; rfl)
      simp only [res]
      show wpAny (model P w) A.in1 (newExc (.type "StopIteration") [] >>= _) _ _ _
      refine wpAny_bind ?_
      simp only [newExc, newTuple]
      refine wpAny_bind (wpAny_newObj_type (?_) (by size_fits))
      refine wpAny_bind (m := firstArgMember _ _) (wpAny_of_eq (a := Value.none) ?fam ?_)
      case fam => first | rfl | (simp only [firstArgMember]; rfl)
      refine wpAny_newObj_type (?_) (by size_fits)
      simp only [raiseNew]
      refine wpAny_bind ?_
      refine wpAny_bind ?_
      refine wpAny_handled ?_
      first | rw [hh] | rw [show A.in1.handled = none from hh]
      refine wpAny_throw ?_
      exact onEnd s₁ hp _ _ (fun b o hb => Heap.get?_push_of_some _ (Heap.get?_push_of_some _ hb)) ⟨_, Heap.get?_push_size _ rfl, rfl⟩
    · exact he.elim
/-- it is the exception by which an iterator ends -/
def StopAt (e : Value) (s : Shared) : Prop := ∃ x : Addr, e = .ref x ∧ ∃ o, s.heap.get? x = some o ∧ o.cls = .type "StopIteration"
/-- drawn by a for -/
theorem py_item {P : Program} {w : World} {A : Around} {E : Value → Shared → Prop} {s : Shared} {a : Addr} {Q : Option Value → Shared → Prop} {R : Addr → Shared → Prop} (h : wpAny (model P w) A (callSpecial? (.ref a) "__next__") (fun r s1 => ∃ p, r = some (.ref p) ∧ R p s1) (fun _ _ => False) s)
    (q : ∀ p s1, R p s1 → Q (some (.ref p)) s1) : wpAny (model P w) A (pyNext (.ref a)) Q E s := by
  unfold pyNext
  refine wpAny_bind (wpAny_attempt (wpAny_mono h (fun r s1 hr => ?_) fun _ _ z => z.elim))
  obtain ⟨p, rfl, hp⟩ := hr
  exact wpAny_pure (q p s1 hp)
theorem py_end {P : Program} {w : World} {A : Around} {E : Value → Shared → Prop} {s : Shared} {a : Addr} {Q : Option Value → Shared → Prop} {R : Shared → Prop} (h : wpAny (model P w) A (callSpecial? (.ref a) "__next__") (fun _ _ => False) (fun e s1 => StopAt e s1 ∧ R s1) s)
    (q : ∀ s1, R s1 → Q none s1) : wpAny (model P w) A (pyNext (.ref a)) Q E s := by
  unfold pyNext
  refine wpAny_bind (wpAny_attempt (wpAny_mono h (fun _ _ z => z.elim) fun e s1 hr => ?_))
  obtain ⟨⟨x, rfl, ox, hx, hc⟩, hR⟩ := hr
  refine wpAny_bind (wpAny_isInstance (T := "StopIteration") (b := true) ⟨ox, hx, hc⟩ isSubtype_stop ?_)
  exact wpAny_pure (q s1 hR)
/-- those that may have moved -/
noncomputable def moved (h : Heap) (φ : Addr → Obj → Prop) (L : Addr) : List Addr := (List.range h.objs.size).filter fun b => @decide (L ≤ b ∧ ¬ ∃ o, h.get? b = some o ∧ L < b ∧ φ b o) (Classical.propDecidable _)
theorem of_moved {h : Heap} {φ : Addr → Obj → Prop} {L b : Addr} (hb : b ∈ moved h φ L) : L ≤ b := by
  have q := (List.mem_filter.mp hb).2
  exact (@of_decide_eq_true _ (Classical.propDecidable _) q).1
theorem not_moved {h : Heap} {φ : Addr → Obj → Prop} {L b : Addr} {o : Obj} (e : h.get? b = some o) (hb : b ∉ moved h φ L) : b < L ∨ (L < b ∧ φ b o) := by
  by_cases hl : b < L
  · exact .inl hl
  · refine .inr (Classical.byContradiction fun z => hb (List.mem_filter.mpr ⟨List.mem_range.mpr (Heap.lt_size e), ?_⟩))
    refine @decide_eq_true _ (Classical.propDecidable _) ⟨Nat.le_of_not_lt hl, fun ⟨o', e', z'⟩ => ?_⟩
    rw [e] at e'
    cases e'
    exact z z'
/-- what is constant while one draws (B: the around where it is drawn) -/
structure Draw (X : Cx) (pins : List (Addr × Obj)) (B : Around) (HF : Hp) (L a : Addr) : Prop where
  pinL : ∀ p ∈ X.pn ++ pins, p.1 < L
  cells : X.env.cells = []
  s0 : X.s_0.heap.objs.size ≤ L
  loc : X.env.locals < L
  La : L < a
  frL : ∀ b ∈ frs X.stack, b < L
  old : ∀ b, HF b ≠ none → b < L
  hL : HF L = none
  ha : HF a = none
  bsz : X.base.objs.size ≤ L
  room : Room 3 B
  frames : B.in1.frames = some X.stack
section
variable {X : Cx} {pins : List (Addr × Obj)} {B : Around} {HF : Hp} {L a g : Addr} {gs o : List Nat}
/-- i items are out, one at least; the generator's own order stands at nw -/
structure Mid (X : Cx) (B : Around) (HF : Hp) (L a g : Addr) (gs o : List Nat) (i : Nat) (nw : Addr) (s : Shared) (H : Hp) : Prop where
  go : ∃ gst gl d e it, s.gens[g]? = some gst ∧ LoopAt X.prog X.w X.base X.stack L gs o i nw gl d e it s.heap ∧ (∀ b, HF b ≠ none → b ≠ nw ∧ b ≠ gl ∧ b ≠ d) ∧
    ∀ s2, Ready X.prog X.w X.K X.mg X.base X.stack L a g gs o i nw gl d e it s2 → gst.Goes (model X.prog X.w) B.in1 (RG X.prog X.w X.stack L a gs o HF) (YG X.prog X.w X.K X.mg X.base X.stack L a g gs o HF) (gs.length - i) (.send .none) s2
  gen : s.heap.IsGen a g
  hn : H nw = some (.lst (nv (plays (gs.take i) o)))
  pl : ∀ b u, H b = some u → L ≤ b → Plain u
  fL : H L = none
  fa : H a = none
theorem Draw.ch (D : Draw X pins B HF L a) {φ : Addr → Obj → Prop} {h : Heap} : ∀ b ∈ moved h φ L, (b ∈ X.ex ∨ X.s_0.heap.objs.size ≤ b) ∧ b ≠ X.env.locals ∧ (∀ x c, X.env.cells.lookup x = some c → c ≠ b) ∧ ∀ p ∈ X.pn ++ pins, p.1 ≠ b := fun b hb => by
  have q := of_moved hb
  refine ⟨.inr (Nat.le_trans D.s0 q), Nat.ne_of_gt (Nat.lt_of_lt_of_le D.loc q), fun x c e => ?_, fun p hp => Nat.ne_of_lt (Nat.lt_of_lt_of_le (D.pinL p hp) q)⟩
  · rw [D.cells] at e
    cases e
theorem Mid.woke (D : Draw X pins B HF L a) {i : Nat} {nw gl d e it : Addr} {s : Shared} {H : Hp} {σ : L2.St} (I : Inv X pins σ H s) (lp : LoopAt X.prog X.w X.base X.stack L gs o i nw gl d e it s.heap) (hg : s.heap.IsGen a g) :
    Ready X.prog X.w X.K X.mg X.base X.stack L a g gs o i nw gl d e it (s.setGen g .running) := by
  obtain ⟨m, hn, _⟩ := lp.loc
  exact ⟨⟨I.mod, fun b o e => (I.bs b o e).1, D.bsz, I.stack, D.frL, allBare_setGen I.bare rfl, hn.lt⟩, lp, hg⟩
theorem step_mid (D : Draw X pins B HF L a) {i : Nat} {nw : Addr} {s : Shared} {H : Hp} {σ : L2.St} {E : Value → Shared → Prop} (I : Inv X pins σ H s) (M : Mid X B HF L a g gs o i nw s H) (hi : 0 < i) (hlt : i < gs.length) :
    wpAny (model X.prog X.w) B (callSpecial? (.ref a) "__next__") (fun r s1 => ∃ p, r = some (.ref p) ∧ ∃ H1, Inv X pins σ H1 s1 ∧ Mid X B HF L a g gs o (i + 1) nw s1 H1 ∧ H1 p = some (.lst (nv (plays (gs.take (i + 1)) o))) ∧ p ≠ nw ∧ H p = none ∧
      (∀ b u, b ≠ nw → H b = some u → H1 b = some u) ∧ Keep X.stack L a s.heap s1.heap ∧ ∀ b ob, s.heap.get? b = some ob → H b = none → (b < L ∨ (L < b ∧ Crit a b ob)) → H1 b = none) E s := by
  obtain ⟨gst, gl, d, e, it, hgs, lp, iso, hgo⟩ := M.go
  have gsz : g + 1 ≤ s.gens.size := by
    obtain ⟨h, _⟩ := Array.getElem?_eq_some_iff.mp hgs
    exact h
  obtain ⟨n, hn⟩ : ∃ n, gs.length - i = n + 1 := ⟨gs.length - i - 1, by omega⟩
  have hgo' := hgo _ (Mid.woke D I lp M.gen)
  rw [hn] at hgo'
  refine wpAny_gsz gsz (spec_gen (F := fun n s₀ s1 => n = 0 ∧ FG X.prog X.w X.stack L a gs o HF n s₀ s1) D.room.hd I.nolimit D.room.depth M.gen hgs hgo' (fun v s₁ gs' hb hv hsz => ?_) (fun s₁ hf => absurd hf.1 (Nat.succ_ne_zero n)))
  obtain ⟨i', nw', gl', d', e', it', p, hin, ev, os1, bare1, lp1, hp, gen1, iso1, pL, rdy, h0, h1, hk⟩ := hv
  have ei : i' = i := by
    have hin' : i' + 1 + n = gs.length := hin
    omega
  subst ei
  obtain ⟨hN, kp, pn, pg, pd, pf⟩ := h1 hi
  have en : nw' = nw := by
    obtain ⟨m, n1, q1, _⟩ := lp.loc
    obtain ⟨m2, n2, q2⟩ := hN
    rw [ns_one n2 n1, q1] at q2
    injection q2 with q2
    injection q2 with q2
    exact q2.symm
  subst en
  have cra : ∀ b u, H b = some u → ∀ ob, s.heap.get? b = some ob → b < L ∨ (L < b ∧ Crit a b ob) := fun b u hb ob eb => by
    rcases Nat.lt_or_ge b L with z | z
    · exact .inl z
    · refine .inr ⟨Nat.lt_of_le_of_ne z fun q => ?_, plain_crit (I.hok b u hb) (M.pl b u hb z) eb⟩
      rw [← q, M.fL] at hb
      cases hb
  have hHp : H p = none := by
    cases q : H p with
    | none => rfl
    | some u =>
      obtain ⟨ob, eb⟩ := obj_there (I.hok p u q)
      exact absurd (cra p u q ob eb) (pf ob eb)
  have nN : ∀ b, b ≠ nw' → ¬ NowIs L s.heap b := fun b hb ⟨m2, n2, q2⟩ => by
    obtain ⟨m, n1, q1⟩ := hN
    rw [ns_one n2 n1, q1] at q2
    injection q2 with q2
    injection q2 with q2
    exact hb q2.symm
  have tr : ∀ b u, b ≠ nw' → H b = some u → ∀ ob, s.heap.get? b = some ob → s₁.heap.get? b = some ob := fun b u hb hu ob eb =>
    (kp b ob eb (cra b u hu ob eb) (nN b hb)).1 fun hf => by
      rw [I.stkFree b hf] at hu
      cases hu
  have e1 : ∀ b u, b ≠ nw' → H b = some u → (upd (upd H nw' (.lst (nv (plays (gs.take (i' + 1)) o)))) p (.lst (nv (plays (gs.take (i' + 1)) o)))) b = some u := fun b u hb hu => by
    rw [upd_ne (ne_of_none hu hHp), upd_ne hb]
    exact hu
  have nwO : ∀ b, H b = none → b ≠ nw' := fun b hb z => by
    rw [z, M.hn] at hb
    cases hb
  have un : Un (frs X.stack) (moved s.heap (Crit a) L) H (upd (upd H nw' (.lst (nv (plays (gs.take (i' + 1)) o)))) p (.lst (nv (plays (gs.take (i' + 1)) o)))) s.heap s₁.heap := by
    refine ⟨fun b ob eb hb hf hm => (kp b ob eb (not_moved eb hm) (nN b (nwO b hb))).1 hf, fun b ob eb hb hf hm => (kp b ob eb (not_moved eb hm) (nN b (nwO b hb))).2 hf, fun b ob eb hb hm => ?_, fun b ob eb hm => ?_,
      fun b xs hb => e1 b _ ?_ hb, fun b ob u hb => e1 b _ ?_ hb, fun b ps hb => ⟨#[], ?_⟩⟩
    · rw [upd_ne, upd_ne (nwO b hb)]
      · exact hb
      · intro z
        rw [z] at eb hm
        exact pf ob eb (not_moved eb hm)
    · by_cases hb : b = nw'
      · rw [hb]
        exact obj_there lp1.nwO
      · have q := kp b ob eb (not_moved eb hm) (nN b hb)
        by_cases hf : b ∈ frs X.stack
        · obtain ⟨sl, z⟩ := q.2 hf
          exact ⟨_, z⟩
        · exact ⟨_, q.1 hf⟩
    · intro z
      rw [z, M.hn] at hb
      cases hb
    · intro z
      rw [z, M.hn] at hb
      cases hb
    · refine (e1 b (.tbl ps) ?_ hb).trans ?_
      · intro z
        rw [z, M.hn] at hb
        cases hb
      · simp
  have hok1 : HOk X.prog X.w (upd (upd H nw' (.lst (nv (plays (gs.take (i' + 1)) o)))) p (.lst (nv (plays (gs.take (i' + 1)) o)))) s₁.heap := fun b u hb => by
    by_cases z : b = p
    · subst z
      rw [upd_same] at hb
      cases hb
      exact lst_any hp
    · rw [upd_ne z] at hb
      by_cases z2 : b = nw'
      · subst z2
        rw [upd_same] at hb
        cases hb
        exact lst_any lp1.nwO
      · rw [upd_ne z2] at hb
        refine (I.hok b u hb).stay (fun c v hc y => ?_) (fun c y => e1 c _ ?_ y) fun c xs y => e1 c _ ?_ y
        · rcases hc with q | q
          · rw [q] at y ⊢
            exact tr b u z2 hb v y
          · refine tr c _ ?_ q v y
            intro q2
            rw [q2, M.hn] at q
            cases q
        · intro q2
          rw [q2, M.hn] at y
          cases y
        · intro q2
          rw [q2, M.hn] at y
          cases y
  have nwL : nw' ≠ L := (lp1.own nw' (.inl rfl)).1
  refine ⟨p, ev ▸ rfl, _, I.call' (s' := s₁.setGen g gs') (ch := moved s.heap (Crit a) L) os1 un hok1 (allBare_setGen bare1 hb) D.ch, ⟨⟨gs', gl', d', e', it', ?_, lp1, iso1, fun s2 R2 => ?_⟩, gen1, ?_, fun b u hb hl => ?_, ?_, ?_⟩, upd_same, pn, hHp, e1, kp, fun b ob eb hb hc => ?_⟩
  · refine setGen_at ?_
    rw [setGen_size] at hsz
    exact hsz
  · have hm : gs.length - (i' + 1) = n := by omega
    rw [hm]
    exact hk s2 R2
  · rw [upd_ne pn.symm, upd_same]
  · by_cases z : b = p
    · subst z
      rw [upd_same] at hb
      cases hb
      exact True.intro
    · rw [upd_ne z] at hb
      by_cases z2 : b = nw'
      · subst z2
        rw [upd_same] at hb
        cases hb
        exact True.intro
      · rw [upd_ne z2] at hb
        exact M.pl b u hb hl
  · rw [upd_ne, upd_ne nwL.symm]
    · exact M.fL
    · exact pL.symm
  · rw [upd_ne, upd_ne (nwO a M.fa).symm.symm]
    · exact M.fa
    · intro z
      obtain ⟨og, nm, qn, eg, cg, dg, sg⟩ := M.gen
      rw [z] at eg
      refine pf og eg (.inr ⟨?_, ⟨(fun v q => by rw [dg] at q; cases q), (by rw [cg]; decide), (fun q => absurd q (by rw [cg]; decide))⟩⟩)
      rw [← z]
      exact D.La
  · rw [upd_ne, upd_ne (nwO b hb)]
    · exact hb
    · intro z
      rw [z] at eb hc
      exact pf ob eb hc
theorem end_mid (D : Draw X pins B HF L a) {i : Nat} {nw : Addr} {s : Shared} {H : Hp} {σ : L2.St} {Q : Option Value → Shared → Prop} (I : Inv X pins σ H s) (M : Mid X B HF L a g gs o i nw s H) (hi : 0 < i) (hlt : i = gs.length) :
    wpAny (model X.prog X.w) B (callSpecial? (.ref a) "__next__") Q (fun e s1 => StopAt e s1 ∧ Inv X pins σ H s1 ∧ Keep X.stack L a s.heap s1.heap) s := by
  obtain ⟨gst, gl, d, e, it, hgs, lp, iso, hgo⟩ := M.go
  have hgo' := hgo _ (Mid.woke D I lp M.gen)
  rw [hlt, Nat.sub_self] at hgo'
  refine spec_gen (F := fun n s₀ s1 => n = 0 ∧ FG X.prog X.w X.stack L a gs o HF n s₀ s1) D.room.hd I.nolimit D.room.depth M.gen hgs hgo' (fun v s₁ gs' hb hv => ?_) (fun s₁ hf x h' hk hx => ?_)
  · obtain ⟨i', nw', gl', d', e', it', p, hin, ev, os1, bare1, lp1, hp, gen1, iso1, pL, rdy, h0, h1, hk⟩ := hv
    exact (hk _ rdy).elim
  obtain ⟨_, os1, bare1, _, h2⟩ := hf
  obtain ⟨kp, lw⟩ := h2 (by omega)
  have hN : NowIs L s.heap nw := by
    obtain ⟨m, n1, q1, _⟩ := lp.loc
    exact ⟨m, n1, q1⟩
  have nN : ∀ b, b ≠ nw → ¬ NowIs L s.heap b := fun b hb ⟨m2, n2, q2⟩ => by
    obtain ⟨m, n1, q1⟩ := hN
    rw [ns_one n2 n1, q1] at q2
    injection q2 with q2
    injection q2 with q2
    exact hb q2.symm
  have cra : ∀ b u, H b = some u → ∀ ob, s.heap.get? b = some ob → b < L ∨ (L < b ∧ Crit a b ob) := fun b u hb ob eb => by
    rcases Nat.lt_or_ge b L with z | z
    · exact .inl z
    · refine .inr ⟨Nat.lt_of_le_of_ne z fun q => ?_, plain_crit (I.hok b u hb) (M.pl b u hb z) eb⟩
      rw [← q, M.fL] at hb
      cases hb
  have nwO : ∀ b, H b = none → b ≠ nw := fun b hb z => by
    rw [z, M.hn] at hb
    cases hb
  have tr : ∀ b u, b ≠ nw → H b = some u → ∀ ob, s.heap.get? b = some ob → h'.get? b = some ob := fun b u hb hu ob eb =>
    hk _ _ ((kp b ob eb (cra b u hu ob eb) (nN b hb)).1 fun hf => by
      rw [I.stkFree b hf] at hu
      cases hu)
  have un : Un (frs X.stack) (moved s.heap (Crit a) L) H H s.heap h' := by
    refine ⟨fun b ob eb hb hf hm => hk _ _ ((kp b ob eb (not_moved eb hm) (nN b (nwO b hb))).1 hf), fun b ob eb hb hf hm => ?_, fun b ob eb hb hm => hb, fun b ob eb hm => ?_,
      fun b xs hb => hb, fun b ob u hb => hb, fun b ps hb => ⟨#[], by simpa using hb⟩⟩
    · obtain ⟨sl, z⟩ := (kp b ob eb (not_moved eb hm) (nN b (nwO b hb))).2 hf
      exact ⟨sl, hk _ _ z⟩
    · by_cases hb : b = nw
      · rw [hb]
        obtain ⟨ob', z⟩ := obj_there (lw nw hN)
        exact ⟨ob', hk _ _ z⟩
      · have q := kp b ob eb (not_moved eb hm) (nN b hb)
        by_cases hf : b ∈ frs X.stack
        · obtain ⟨sl, z⟩ := q.2 hf
          exact ⟨_, hk _ _ z⟩
        · exact ⟨_, hk _ _ (q.1 hf)⟩
  have hok1 : HOk X.prog X.w H h' := fun b u hb => by
    by_cases z2 : b = nw
    · subst z2
      rw [M.hn] at hb
      cases hb
      have e : gs.take i = gs := List.take_of_length_le (by omega)
      rw [e]
      have q := lw b hN
      exact (ObjOk.stay q (fun c v _ y => hk c v y) (fun _ y => by cases y) fun _ _ y => by cases y)
    · refine (I.hok b u hb).stay (fun c v hc y => ?_) (fun c y => y) fun c xs y => y
      rcases hc with q | q
      · rw [q] at y ⊢
        exact tr b u z2 hb v y
      · refine tr c _ ?_ q v y
        intro q2
        rw [q2, M.hn] at q
        cases q
  refine ⟨⟨x, rfl, hx⟩, I.call' (s' := { s₁.setGen g .finished with heap := h' }) (ch := moved s.heap (Crit a) L) os1 un hok1 (allBare_setGen bare1 rfl) D.ch, fun b ob eb hc hN' => ?_⟩
  obtain ⟨k1, k2⟩ := kp b ob eb hc hN'
  refine ⟨fun z => hk _ _ (k1 z), fun z => ?_⟩
  obtain ⟨sl, q⟩ := k2 z
  exact ⟨sl, hk _ _ q⟩
variable {C f : Addr} {cd : Value} {p a0 mt : Addr} {n : Nat}
/-- the first draw -/
theorem first_go (G : Gs X.K X.mg) (cE : C8.Cal X.prog X.w X.K X.mg X.base 1 "is_exchanged" (spBad X.K) []) (cX : C8.Cal X.prog X.w X.K X.mg X.base 1 "exchange" (spSwap X.K) []) (cG : C8.Met X.prog X.w X.K X.mg X.base 1 C "gates" (spGates C) [])
    (D : Draw X pins B HF L a) {s sC s' : Shared} {σ : L2.St} (M0 : GenMade X.base X.stack HF sC f cd p a0 mt L a g s') (k : ∀ b o, L ≤ b → s'.heap.get? b = some o → s.heap.get? b = some o)
    (hst : s.gens[g]? = some (.fresh (.func (C8.fnBody (top 24)) (envOfC "orders_after" gSc L f cd)))) (I : Inv X pins σ HF s) (S1 : Sch C HF p n gs) (ho : HF a0 = some (.lst (nv o))) (hm : SqT X.K HF mt []) (okg : ∀ x ∈ gs, 1 ≤ x ∧ x < o.length) (hlen : o.length ≤ 12) :
    (GenState.fresh (.func (C8.fnBody (top 24)) (envOfC "orders_after" gSc L f cd))).Goes (model X.prog X.w) B.in1 (RG X.prog X.w X.stack L a gs o HF) (YG X.prog X.w X.K X.mg X.base X.stack L a g gs o HF) gs.length (.send .none) (s.setGen g .running) := by
  have wf := wake_first (P := X.prog) (w := X.w) (K := X.K) (mg := X.mg) (s2 := s.setGen g .running) (A' := B.in1) M0 D.room.in1.hd D.frames I.mod (fun b o e => I.bs b o e) I.stack I.stkFree I.hok (allBare_setGen I.bare rfl) k
  have hL : L < s.heap.objs.size := by
    obtain ⟨m, ⟨ob, es, ep, e, r⟩, _⟩ := M0.loc
    exact Heap.lt_size (k L ob (Nat.le_refl _) e)
  exact ⟨rfl, seg_fresh G (D.room.in1.deeper _) cE cX cG D.room.in1.hd D.frames M0.La M0.frL okg hlen hL (fun b u hb => I.hok.lt hb) wf.1 wf.2 S1 ho hm⟩
theorem first_next (G : Gs X.K X.mg) (cE : C8.Cal X.prog X.w X.K X.mg X.base 1 "is_exchanged" (spBad X.K) []) (cX : C8.Cal X.prog X.w X.K X.mg X.base 1 "exchange" (spSwap X.K) []) (cG : C8.Met X.prog X.w X.K X.mg X.base 1 C "gates" (spGates C) [])
    (D : Draw X pins B HF L a) {s sC s' : Shared} {σ : L2.St} {E : Value → Shared → Prop} (M0 : GenMade X.base X.stack HF sC f cd p a0 mt L a g s') (k : ∀ b o, L ≤ b → s'.heap.get? b = some o → s.heap.get? b = some o)
    (hst : s.gens[g]? = some (.fresh (.func (C8.fnBody (top 24)) (envOfC "orders_after" gSc L f cd)))) (I : Inv X pins σ HF s) (S1 : Sch C HF p n gs) (ho : HF a0 = some (.lst (nv o))) (hm : SqT X.K HF mt []) (okg : ∀ x ∈ gs, 1 ≤ x ∧ x < o.length) (hlen : o.length ≤ 12) (hlt : 0 < gs.length) :
    wpAny (model X.prog X.w) B (callSpecial? (.ref a) "__next__") (fun r s1 => ∃ q, r = some (.ref q) ∧ ∃ H1 nw, Inv X pins σ H1 s1 ∧ Mid X B HF L a g gs o 1 nw s1 H1 ∧ H1 q = some (.lst (nv (plays (gs.take 1) o))) ∧ q ≠ nw ∧ HF q = none ∧ HF nw = none ∧ Same HF H1 ∧
      (∀ b ob, s.heap.get? b = some ob → HF b = none → L < b → CritF b ob → s1.heap.get? b = some ob ∧ H1 b = none)) E s := by
  have hgo' := first_go (a := a) (g := g) (o := o) G cE cX cG D M0 k hst I S1 ho hm okg hlen
  have gsz : g + 1 ≤ s.gens.size := by
    obtain ⟨h, _⟩ := Array.getElem?_eq_some_iff.mp hst
    exact h
  obtain ⟨m, hn⟩ : ∃ m, gs.length = m + 1 := ⟨gs.length - 1, by omega⟩
  rw [hn] at hgo'
  obtain ⟨og, nm, qn, eg, cg, dg, sg⟩ := M0.gen
  have egs := k a og (Nat.le_of_lt M0.La) eg
  refine wpAny_gsz gsz (spec_gen (F := fun n s₀ s1 => n = 0 ∧ FG X.prog X.w X.stack L a gs o HF n s₀ s1) D.room.hd I.nolimit D.room.depth ⟨og, nm, qn, egs, cg, dg, sg⟩ hst hgo' (fun v s₁ gs' hb hv hsz => ?_) (fun s₁ hf => absurd hf.1 (Nat.succ_ne_zero m)))
  obtain ⟨i', nw, gl', d', e', it', q, hin, ev, os1, bare1, lp1, hp, gen1, iso1, pL, rdy, h0, h1, hk⟩ := hv
  have ei : i' = 0 := by
    have hin' : i' + 1 + m = gs.length := hin
    omega
  subst ei
  obtain ⟨H1, hok1, sm, gw, n1, n2, n3, n4, q1, q2, q3, e1, e2, e3, e4, HL, U⟩ := h0 rfl
  have un : Un (frs X.stack) (moved s.heap CritF L) HF H1 s.heap s₁.heap := by
    refine ⟨fun b ob eb hb hf hm => (U b ob eb hb (not_moved eb hm)).2.1 hf, fun b ob eb hb hf hm => (U b ob eb hb (not_moved eb hm)).2.2 hf, fun b ob eb hb hm => (U b ob eb hb (not_moved eb hm)).1, fun b ob eb hm => ?_,
      fun b xs hb => sm b _ hb, fun b ob u hb => sm b _ hb, fun b ps hb => ⟨#[], ?_⟩⟩
    · cases hb : HF b with
      | none =>
        have z := (U b ob eb hb (not_moved eb hm)).2
        by_cases hf : b ∈ frs X.stack
        · obtain ⟨sl, z⟩ := z.2 hf
          exact ⟨_, z⟩
        · exact ⟨_, z.1 hf⟩
      | some u => exact obj_there (hok1 b u (sm b u hb))
    · rw [sm b _ hb]
      simp
  have ha1 : H1 a = none := (U a og egs D.ha (.inr ⟨D.La, fun v z => by rw [dg] at z; cases z⟩)).1
  refine ⟨q, ev ▸ rfl, H1, nw, I.call' (s' := s₁.setGen g gs') (ch := moved s.heap CritF L) os1 un hok1 (allBare_setGen bare1 hb) D.ch, ⟨⟨gs', gl', d', e', it', ?_, lp1, iso1, fun s2 R2 => ?_⟩, gen1, e1, fun b u hb hl => ?_, HL, ha1⟩, e4, q1, n4, n1, sm, fun b ob eb hb hl hc => ?_⟩
  · refine setGen_at ?_
    rw [setGen_size] at hsz
    exact hsz
  · have hm : gs.length - (0 + 1) = m := by omega
    rw [hm]
    exact hk s2 R2
  · rcases gw b u hb with z | z
    · exact absurd (D.old b (by rw [z]; intro y; cases y)) (Nat.not_lt_of_le hl)
    · exact z
  · have z := U b ob eb hb (.inr ⟨hl, hc⟩)
    exact ⟨z.2.1 fun hf => absurd (D.frL b hf) (Nat.lt_asymm hl), z.1⟩
theorem first_end (G : Gs X.K X.mg) (cE : C8.Cal X.prog X.w X.K X.mg X.base 1 "is_exchanged" (spBad X.K) []) (cX : C8.Cal X.prog X.w X.K X.mg X.base 1 "exchange" (spSwap X.K) []) (cG : C8.Met X.prog X.w X.K X.mg X.base 1 C "gates" (spGates C) [])
    (D : Draw X pins B HF L a) {s sC s' : Shared} {σ : L2.St} {Q : Option Value → Shared → Prop} (M0 : GenMade X.base X.stack HF sC f cd p a0 mt L a g s') (k : ∀ b o, L ≤ b → s'.heap.get? b = some o → s.heap.get? b = some o)
    (hst : s.gens[g]? = some (.fresh (.func (C8.fnBody (top 24)) (envOfC "orders_after" gSc L f cd)))) (I : Inv X pins σ HF s) (S1 : Sch C HF p n gs) (ho : HF a0 = some (.lst (nv o))) (hm : SqT X.K HF mt []) (okg : ∀ x ∈ gs, 1 ≤ x ∧ x < o.length) (hlen : o.length ≤ 12) (hlt : gs.length = 0) :
    wpAny (model X.prog X.w) B (callSpecial? (.ref a) "__next__") Q (fun e s1 => StopAt e s1 ∧ ∃ H1, Inv X pins σ H1 s1 ∧ Same HF H1 ∧ (∀ b ob, s.heap.get? b = some ob → HF b = none → L < b → CritF b ob → s1.heap.get? b = some ob ∧ H1 b = none)) s := by
  have hgo' := first_go (a := a) (g := g) (o := o) G cE cX cG D M0 k hst I S1 ho hm okg hlen
  rw [hlt] at hgo'
  obtain ⟨og, nm, qn, eg, cg, dg, sg⟩ := M0.gen
  have egs := k a og (Nat.le_of_lt M0.La) eg
  refine spec_gen (F := fun n s₀ s1 => n = 0 ∧ FG X.prog X.w X.stack L a gs o HF n s₀ s1) D.room.hd I.nolimit D.room.depth ⟨og, nm, qn, egs, cg, dg, sg⟩ hst hgo' (fun v s₁ gs' hb hv => ?_) (fun s₁ hf x h' hk hx => ?_)
  · obtain ⟨i', nw, gl', d', e', it', q, hin, ev, os1, bare1, lp1, hp, gen1, iso1, pL, rdy, h0, h1, hk⟩ := hv
    exact (hk _ rdy).elim
  obtain ⟨_, os1, bare1, h1, _⟩ := hf
  obtain ⟨H1, hok1, sm, U⟩ := h1 hlt
  have un : Un (frs X.stack) (moved s.heap CritF L) HF H1 s.heap h' := by
    refine ⟨fun b ob eb hb hf hm => hk _ _ ((U b ob eb hb (not_moved eb hm)).2.1 hf), fun b ob eb hb hf hm => ?_, fun b ob eb hb hm => (U b ob eb hb (not_moved eb hm)).1, fun b ob eb hm => ?_,
      fun b xs hb => sm b _ hb, fun b ob u hb => sm b _ hb, fun b ps hb => ⟨#[], ?_⟩⟩
    · obtain ⟨sl, z⟩ := (U b ob eb hb (not_moved eb hm)).2.2 hf
      exact ⟨sl, hk _ _ z⟩
    · cases hb : HF b with
      | none =>
        have z := (U b ob eb hb (not_moved eb hm)).2
        by_cases hf : b ∈ frs X.stack
        · obtain ⟨sl, z⟩ := z.2 hf
          exact ⟨_, hk _ _ z⟩
        · exact ⟨_, hk _ _ (z.1 hf)⟩
      | some u =>
        obtain ⟨ob', z⟩ := obj_there (hok1 b u (sm b u hb))
        exact ⟨ob', hk _ _ z⟩
    · rw [sm b _ hb]
      simp
  refine ⟨⟨x, rfl, hx⟩, H1, I.call' (s' := { s₁.setGen g .finished with heap := h' }) (ch := moved s.heap CritF L) os1 un (hok1.kept hk) (allBare_setGen bare1 rfl) D.ch, sm, fun b ob eb hb hl hc => ?_⟩
  have z := U b ob eb hb (.inr ⟨hl, hc⟩)
  exact ⟨hk _ _ (z.2.1 fun hf => absurd (D.frL b hf) (Nat.lt_asymm hl)), z.1⟩
end
end K76
namespace K76
open PySem PySem.Spec PyProof.Rows L2 GenW
section
variable {X : Cx} {pins : List (Addr × Obj)} {B : Around} {HF : Hp} {L a g : Addr} {gs o : List Nat}
/-- a store to a local: the state as it is -/
theorem store3 {M : Model} {A : Around} {E : Value → Shared → Prop} {σ : L2.St} {H : Hp} {s : Shared} {i : Nat} {x : Str} {v : V} {u : Value} {Q : Unit → Shared → Prop} (cs : X.env.cells = []) (I : Inv X pins σ H s) (hN : X.N.Nodup) (hi : X.N[i]? = some x)
    (hk : X.env.scope.names.lookup x = some .local) (r : RelV v u)
    (h : ∀ h', Inv X pins (σ.set i (some v)) H { s with heap := h', toks := s.toks + 1 } → Heap.SameBut X.env.locals s.heap h' → Q () { s with heap := h', toks := s.toks + 1 }) : wpAny M A (storeName X.env x u) Q E s := by
  obtain ⟨m, hn, hl⟩ := I.loc
  have hcls : (X.env.scope.kind == .class || (X.env.scope.kind == .module && X.env.locals != X.env.globals)) = false := by
    rw [I.ok.kind]
    rfl
  refine wpAny_storeName_local hk hn (fun h' hn' hs => h h' ?_ hs) hcls
  have ne0 : ∀ b ob, X.s_0.heap.get? b = some ob → h'.get? b = s.heap.get? b := fun b ob e => hs.2 b fun z => by
    have q := Nat.lt_of_lt_of_le (Heap.lt_size e) I.ok.above
    rw [z] at q
    exact Nat.lt_irrefl _ q
  have nt : ∀ b ob, H b = some ob → b ≠ X.env.locals := fun b ob e z => by
    rw [z, I.free] at e
    cases e
  have no : ∀ {y : Str} {c : Addr}, X.env.cells.lookup y = some c → False := fun {y c} e => by
    rw [cs] at e
    cases e
  refine ⟨I.ok, I.os, I.bare, ⟨?_, ?_, I.base.free, ?_, I.base.tups, I.base.frzs, I.base.tbls⟩, ⟨_, hn', ?_⟩, fun y c e => (no e).elim, I.free, fun y c e => (no e).elim, fun q hq => ?_, fun b ob e => ?_, by rw [List.length_set]; exact I.len⟩
  · intro b ob e n f ex
    exact (ne0 b ob e).trans (I.base.keep b ob e n f ex)
  · intro b ob e n f ex
    obtain ⟨sl, z⟩ := I.base.slot b ob e n f ex
    exact ⟨sl, (ne0 b ob e).trans z⟩
  · intro b ob e ex
    obtain ⟨z, q⟩ := I.base.there b ob e ex
    exact ⟨z, (ne0 b ob e).trans q⟩
  · intro j y v' e1 e2 e3
    by_cases hj : j = i
    · rw [hj] at e1 e2
      rw [hi] at e1
      cases e1
      rw [List.getElem?_set_self (by rw [I.len]; exact (List.getElem?_eq_some_iff.mp hi).1)] at e2
      cases e2
      exact ⟨u, r, .inl ⟨hk, if_pos rfl⟩⟩
    · rw [List.getElem?_set_ne fun z => hj z.symm] at e2
      obtain ⟨u', r', q⟩ := (hl j y v' e1 e2 e3)
      refine ⟨u', r', ?_⟩
      rcases q with ⟨k, e⟩ | ⟨_, c, e, _⟩
      · refine .inl ⟨k, (if_neg fun z => hj ?_).trans e⟩
        exact nodup_ix hN e1 (z ▸ hi)
      · exact (no e).elim
  · obtain ⟨q1, q2, q3, q4⟩ := I.pin q hq
    exact ⟨(hs.2 _ q3).trans q1, q2, q3, q4⟩
  · refine (I.hok b ob e).stay (fun c z hc y => (hs.2 c ?_).trans y) (fun _ y => y) fun _ _ y => y
    rcases hc with z | z
    · rw [z]
      exact nt b ob e
    · exact nt c _ z
/-- a local, read -/
theorem read3 {E : Value → Shared → Prop} {σ : L2.St} {H : Hp} {s : Shared} {i : Nat} {x : Str} {v : V} {pos : Pos} {Q : Value → Shared → Prop} (cs : X.env.cells = []) (I : Inv X pins σ H s) (hi : X.N[i]? = some x) (hk : X.env.scope.names.lookup x = some .local) (e : σ[i]? = some (some v))
    (h : ∀ u, RelV v u → Q u s) (hd : (x == ("__debug__" : Str)) = false := by decide) : wpAny (model X.prog X.w) X.A (eval (.Name x pos) X.env) Q E s := by
  obtain ⟨m, hn, hl⟩ := I.loc
  obtain ⟨u, r, l⟩ := hl i x v hi e (.inl hk)
  rcases l with ⟨k, hm⟩ | ⟨_, c, z, _⟩
  · exact wpAny_Name (wpAny_loadName_local I.ok.kind k hn hm (h u r)) hd
  · rw [cs] at z
    cases z
/-- the generator between its turns is left alone -/
theorem loop_keeps {P : Program} {w : World} {base : Heap} {outer : List Env} {i : Nat} {nw gl d e it : Addr} {h h' : Heap} (lp : LoopAt P w base outer L gs o i nw gl d e it h) (k : ∀ b ob, b = L ∨ b = nw ∨ b = gl ∨ b = d ∨ b = e ∨ b = it → h.get? b = some ob → h'.get? b = some ob) :
    LoopAt P w base outer L gs o i nw gl d e it h' := by
  obtain ⟨⟨m, ⟨om, es, ep, em, rm⟩, hm⟩, ⟨old, he⟩, li, ne, x1, x2, x3, gt, own, dis⟩ := lp
  have st : ∀ {b : Addr} {u : HO}, (b = nw ∨ b = gl ∨ b = d) → ObjOk P w noH h b u → ObjOk P w noH h' b u := fun {b u} hb x => x.stay (fun c z hc y => by
    rcases hc with q | q
    · rw [q] at y ⊢
      exact k b z (.inr (hb.elim .inl fun q => .inr (q.elim .inl fun q => .inr (.inl q)))) y
    · cases q) (fun _ y => y) fun _ _ y => y
  exact ⟨⟨m, ⟨om, es, ep, k L _ (.inl rfl) em, rm⟩, hm⟩, ⟨old, k e _ (.inr (.inr (.inr (.inr (.inl rfl))))) he⟩, li.at fun ob q => k it _ (.inr (.inr (.inr (.inr (.inr rfl))))) q, ne,
    st (.inl rfl) x1, st (.inr (.inl rfl)) x2, st (.inr (.inr rfl)) x3, gt, own, dis⟩
/-- a change at one address, of a thing tracked from the first or of the drawer's own frame -/
theorem mid_but (D : Draw X pins B HF L a) {i : Nat} {nw c : Addr} {s : Shared} {H H' : Hp} {h' : Heap} {t : Nat} (M : Mid X B HF L a g gs o i nw s H) (hc : c = X.env.locals ∧ X.env.locals ∈ frs X.stack ∨ HF c ≠ none)
    (k : ∀ b ob, b ≠ c → s.heap.get? b = some ob → h'.get? b = some ob) (kH : ∀ b, b ≠ c → H' b = H b) : Mid X B HF L a g gs o i nw { s with heap := h', toks := t } H' := by
  obtain ⟨⟨gst, gl, d, e, it, hgs, lp, iso, hgo⟩, ⟨og, nm, qn, eg, rg⟩, hn, pl, fL, fa⟩ := M
  have cL : c < L := by
    rcases hc with ⟨z, _⟩ | z
    · rw [z]
      exact D.loc
    · exact D.old c z
  have nc : ∀ b, b = nw ∨ b = gl ∨ b = d → b ≠ c := fun b hb z => by
    rcases hc with ⟨z1, z2⟩ | z1
    · have q := (lp.own b hb).2.1
      rw [z, z1] at q
      exact q z2
    · obtain ⟨q1, q2, q3⟩ := iso c z1
      rw [z] at hb
      rcases hb with y | y | y
      · exact q1 y
      · exact q2 y
      · exact q3 y
  have big : ∀ b, L ≤ b → b ≠ c := fun b hb z => absurd (Nat.lt_of_lt_of_le cL hb) (by rw [z]; exact Nat.lt_irrefl _)
  refine ⟨⟨gst, gl, d, e, it, hgs, loop_keeps lp fun b ob hb q => k b ob ?_ q, iso, hgo⟩, ⟨og, nm, qn, k a og (big a (Nat.le_of_lt D.La)) eg, rg⟩, ?_, fun b u hb hl => ?_, ?_, ?_⟩
  · rcases hb with z | z | z | z | z | z
    · exact big b (by rw [z]; exact Nat.le_refl _)
    · exact nc b (.inl z)
    · exact nc b (.inr (.inl z))
    · exact nc b (.inr (.inr z))
    · exact big b (by rw [z]; exact Nat.le_of_lt lp.gt.1)
    · exact big b (by rw [z]; exact Nat.le_of_lt lp.gt.2)
  · rw [kH nw (nc nw (.inl rfl))]
    exact hn
  · rw [kH b (big b hl)] at hb
    exact pl b u hb hl
  · rw [kH L (big L (Nat.le_refl _))]
    exact fL
  · rw [kH a (big a (Nat.le_of_lt D.La))]
    exact fa
end
end K76
namespace K76
open PySem PySem.Spec PyProof.Rows L2 GenW
/-- the keyword under which the third argument is handed over -/
abbrev kwM (p1 p2 : Pos) : List Keyword := [⟨some "missed", .Name "missed" p1, p2⟩]
section
variable {X : Cx} {pins : List (Addr × Obj)} {T0 f : Addr} {fd : FuncData}
/-- orders_after(schedule, order, missed=missed), in a def whose first names these are -/
theorem gen_eval (D : GD X.K X.mg T0 f fd) (hr : Room 2 X.A) (cs : X.env.cells = []) (hg : Gl X "orders_after") {σ : L2.St} {H : Hp} {s : Shared} {p a0 mt : Addr} {q0 q1 q2 q3 q4 q5 : Pos} (I : Inv X pins σ H s)
    (n0 : X.N[0]? = some ("schedule" : Str)) (n1 : X.N[1]? = some ("order" : Str)) (n2 : X.N[2]? = some ("missed" : Str)) (l0 : X.env.scope.names.lookup ("schedule" : Str) = some .local) (l1 : X.env.scope.names.lookup ("order" : Str) = some .local) (l2 : X.env.scope.names.lookup ("missed" : Str) = some .local)
    (e0 : σ[0]? = some (some (.ref p))) (e1 : σ[1]? = some (some (.ref a0))) (e2 : σ[2]? = some (some (.ref mt))) :
    wpAny (model X.prog X.w) X.A (eval (.Call (.Name "orders_after" q0) [.Name "schedule" q1, .Name "order" q2] (kwM q3 q4) q5) X.env)
      (fun u s' => ∃ cd L a g sC, u = .ref a ∧ GenMade X.base X.stack H sC f cd p a0 mt L a g s' ∧ Inv X pins σ H s' ∧ X.s_0.heap.objs.size ≤ L ∧ X.env.locals < L ∧ ∀ p ∈ X.pn ++ pins, p.1 < L) X.xe s := by
  have kin0 : X.K.In s.heap := I.kIn
  have pa : PA X [.Name "schedule" q1, .Name "order" q2] _ := pa_cons (pe_var n0 (.inl l0)) (pa_cons (pe_var n1 (.inl l1)) pa_nil)
  have pk : PK X (kwM q3 q4) _ := pk_cons (pe_var n2 (.inl l2)) pk_nil
  refine wpAny_Call_Name_kw (ld_glob I hg D.mgf ?_ (by decide))
  refine PySem.W.callWith_KW (h₀ := X.base) I.ok.mod.kin D.F.kp (by rfl) (thn (pa.run q5 pins s σ H (fun vs H' => vs = [.ref p, .ref a0] ∧ H' = H) I ⟨_, e0, _, e1, rfl, rfl⟩) fun us s1 h1 => ?_) (by rfl) (by rfl)
  obtain ⟨vs, H1, I1, r1, ev, eH⟩ := h1
  subst ev eH
  refine thn (pk.run q5 pins s1 σ _ (fun vs H' => vs = [.ref mt] ∧ H' = H1) I1 ⟨_, e2, rfl, rfl⟩) fun ws s2 h2 => ?_
  obtain ⟨zs, H2, I2, r2, ev, eH⟩ := h2
  subst ev eH
  refine ⟨I2.kIn, ?_⟩
  cases r1 with
  | cons ra rr =>
    cases rr with
    | cons rb rr =>
      cases rr
      cases r2 with
      | cons rc rr =>
        cases rr
        cases ra
        cases rb
        cases rc
        obtain ⟨cd, gc⟩ := gen_code (p := p) (a0 := a0) (mt := mt) D hr I2.env0
        refine wpAny_call (codeAny_mono gc fun r s' hq => ?_)
        obtain ⟨L, a, g, er, M⟩ := hq
        subst er
        refine ⟨cd, L, a, g, s2, rfl, M, I2.call' (s' := s') (ch := []) M.os (Un.kept M.keep) (I2.hok.kept M.keep) M.bare (fun b hb => by cases hb), ?_, ?_, fun q hq => ?_⟩
        · rw [← M.Lsz]
          exact I2.sz
        · rw [← M.Lsz]
          exact I2.lt
        · rw [← M.Lsz]
          exact Heap.lt_size (I2.pin q hq).1
end
end K76
namespace K76
open PySem PySem.Spec PyProof.Rows L2 GenW
def plN : List Str := ["schedule", "order", "missed", "found", "later"]
theorem plN_nd : plN.Nodup := by decide +kernel
/-- what a drawer's loop wants of the program -/
structure Dr (X : Cx) (C T0 f : Addr) (fd : FuncData) : Prop where
  G : Gs X.K X.mg
  cE : C8.Cal X.prog X.w X.K X.mg X.base 1 "is_exchanged" (spBad X.K) []
  cX : C8.Cal X.prog X.w X.K X.mg X.base 1 "exchange" (spSwap X.K) []
  cG : C8.Met X.prog X.w X.K X.mg X.base 1 C "gates" (spGates C) []
  D : GD X.K X.mg T0 f fd
  cs : X.env.cells = []
  hst : X.env.locals ∈ frs X.stack
  lk : ∀ x ∈ X.N, X.env.scope.names.lookup x = some .local
def tPlay (K : PySem.W.Frag) (C : Addr) : TS := fun D σ H => ∃ (p a0 mt fd : Addr) (n : Nat) (gs o : List Nat), σ = [some (.ref p), some (.ref a0), some (.ref mt), some (.ref fd), none] ∧ Sch C H p n gs ∧ H a0 = some (.lst (nv o)) ∧ H fd = some (.lst (nv o)) ∧ SqT K H mt [] ∧
  (∀ x ∈ gs, 1 ≤ x ∧ x < o.length) ∧ o.length ≤ 12 ∧ ∀ (H' : Hp) (x : Addr) (v4 : Option V), Same H H' → H' x = some (.lst (nv (plays gs o))) → D.nx [some (.ref p), some (.ref a0), some (.ref mt), some (.ref x), v4] H'
section
variable {X : Cx} {C T0 f : Addr} {fd : FuncData}
theorem ps_play (R : Dr X C T0 f fd) (hr : Room 3 X.A) (hg : Gl X "orders_after") (hN : X.N = plN) {t0 q0 q1 q2 q3 q4 q5 b0 b1 b2 pos : Pos} :
    PS X (.For (.Name "later" t0) (.Call (.Name "orders_after" q0) [.Name "schedule" q1, .Name "order" q2] (kwM q3 q4) q5) [.Assign [.Name "found" b0] (.Name "later" b1) b2] [] pos) (tPlay X.K C) := by
  refine ⟨fun pins s σ H D I hyp => ?_⟩
  have h := hyp
  obtain ⟨p, a0, mt, fd, n, gs, o, rfl, S1, ho, hf, hm, okg, hlen, q⟩ := h
  have nd : X.N.Nodup := by
    rw [hN]
    exact plN_nd
  have ix : ∀ (i : Nat) (x : Str), plN[i]? = some x → X.N[i]? = some x ∧ X.env.scope.names.lookup x = some .local := fun i x e => by
    have e' : X.N[i]? = some x := by
      rw [hN]
      exact e
    exact ⟨e', R.lk x (List.mem_of_getElem? e')⟩
  refine wpAny_For (thn (gen_eval R.D (hr.mono (by decide)) R.cs hg I (ix 0 _ rfl).1 (ix 1 _ rfl).1 (ix 2 _ rfl).1 (ix 0 _ rfl).2 (ix 1 _ rfl).2 (ix 2 _ rfl).2 rfl rfl rfl) fun v s1 h1 => ?_) (by intro _; rfl)
  obtain ⟨cd, L, a, g, sC, rfl, M0, I1, z0, z1, z2⟩ := h1
  refine wpAny_pyIter_gen M0.gen ?_
  have D0 : Draw X pins X.A H L a := ⟨z2, R.cs, z0, z1, M0.La, M0.frL, M0.old, M0.hL, M0.ha, M0.bsz, hr, I1.ok.frames⟩
  refine codeAny_forLoop_any (fun m s' => ∃ (i : Nat) (x : Addr) (v4 : Option V) (H' : Hp), m = gs.length - i ∧ i ≤ gs.length ∧ Inv X pins [some (.ref p), some (.ref a0), some (.ref mt), some (.ref x), v4] H' s' ∧ Same H H' ∧
    ((i = 0 ∧ H' = H ∧ x = fd ∧ s'.gens[g]? = some (.fresh (.func (C8.fnBody (top 24)) (envOfC "orders_after" gSc L f cd))) ∧ ∀ b ob, L ≤ b → s1.heap.get? b = some ob → s'.heap.get? b = some ob) ∨
      (0 < i ∧ ∃ nw, Mid X X.A H L a g gs o i nw s' H' ∧ H' x = some (.lst (nv (plays (gs.take i) o))) ∧ x ≠ nw ∧ H nw = none))) ?_ gs.length
    ⟨0, fd, none, H, rfl, Nat.zero_le _, I1, Same.refl H, .inl ⟨rfl, rfl, rfl, M0.st, fun _ _ _ z => z⟩⟩
  -- a turn's body, whatever the turn
  have body : ∀ (i : Nat) (x : Addr) (v4 : Option V) (H1 : Hp) (s2 : Shared) (y nw : Addr) (m : Nat), m = gs.length - i → i < gs.length → Inv X pins [some (.ref p), some (.ref a0), some (.ref mt), some (.ref x), v4] H1 s2 → Same H H1 → Mid X X.A H L a g gs o (i + 1) nw s2 H1 →
      H1 y = some (.lst (nv (plays (gs.take (i + 1)) o))) → y ≠ nw → H nw = none → ∀ (E1 E2 E3 : Value → Shared → Prop), wpAny (model X.prog X.w) X.A (letOwnedTupleGo (.Name "later" t0) (.ref a) (.ref y)) (fun _ s₁' => wpAny (model X.prog X.w) X.A (assign (.Name "later" t0) X.env (.ref y)) (fun _ s3 =>
        wpAny (model X.prog X.w) X.A (execs [.Assign [.Name "found" b0] (.Name "later" b1) b2] X.env) (fun f' s4 => match f' with
          | .next | .cont => ∃ m', m' < m ∧ ∃ (i : Nat) (x : Addr) (v4 : Option V) (H' : Hp), m' = gs.length - i ∧ i ≤ gs.length ∧ Inv X pins [some (.ref p), some (.ref a0), some (.ref mt), some (.ref x), v4] H' s4 ∧ Same H H' ∧
            ((i = 0 ∧ H' = H ∧ x = fd ∧ s4.gens[g]? = some (.fresh (.func (C8.fnBody (top 24)) (envOfC "orders_after" gSc L f cd))) ∧ ∀ b ob, L ≤ b → s1.heap.get? b = some ob → s4.heap.get? b = some ob) ∨
              (0 < i ∧ ∃ nw, Mid X X.A H L a g gs o i nw s4 H' ∧ H' x = some (.lst (nv (plays (gs.take i) o))) ∧ x ≠ nw ∧ H nw = none))
          | .brk => L2.SP X pins D .next s4
          | .ret v => L2.SP X pins D (.ret v) s4) E3 s3) E2 s₁') E1 s2 := by
    intro i x v4 H1 s2 y nw m em hi I2 sm M1 ey ny nn E1 E2 E3
    show wpAny _ _ (pure ()) _ _ _
    refine wpAny_pure (wpAny_assign_Name (store3 (v := V.ref y) (i := 4) R.cs I2 nd (ix 4 _ rfl).1 (ix 4 _ rfl).2 rfl fun h' I3 sb => ?_))
    have M2 := mid_but (t := s2.toks + 1) (H' := H1) D0 M1 (.inl ⟨rfl, R.hst⟩) (fun b ob hb e => (sb.2 b hb).trans e) (fun _ _ => rfl)
    refine wpAny_execs_cons (wpAny_Assign_Name (read3 (i := 4) R.cs I3 (ix 4 _ rfl).1 (ix 4 _ rfl).2 rfl fun u ru => ?_) (by rfl))
    refine store3 (v := V.ref y) (i := 3) R.cs I3 nd (ix 3 _ rfl).1 (ix 3 _ rfl).2 ru fun h'' I4 sb2 => wpAny_execs_nil ?_
    have M3 := mid_but (t := s2.toks + 1 + 1) (H' := H1) D0 M2 (.inl ⟨rfl, R.hst⟩) (fun b ob hb e => (sb2.2 b hb).trans e) (fun _ _ => rfl)
    exact ⟨gs.length - (i + 1), by omega, i + 1, y, some (.ref y), H1, rfl, hi, I4, sm, .inr ⟨Nat.succ_pos i, nw, M3, ey, ny, nn⟩⟩
  rintro m s2 ⟨i, x, v4, H2, em, hi, I2, sm, hc⟩
  rcases hc with ⟨i0, eH, ex, hst, hk⟩ | ⟨i0, nw, M, ey, ny, nn⟩
  · subst i0 eH ex
    rcases Nat.eq_zero_or_pos gs.length with hz | hz
    · refine py_end (first_end R.G R.cE R.cX R.cG D0 M0 hk hst I2 S1 ho hm okg hlen hz) fun s3 h3 => ?_
      obtain ⟨H1, I3, sm1, _⟩ := h3
      have eg : gs = [] := List.eq_nil_of_length_eq_zero hz
      exact wpAny_execs_nil ⟨_, H1, I3, q H1 _ v4 sm1 (by rw [eg]; exact sm1.at hf)⟩
    · refine py_item (first_next R.G R.cE R.cX R.cG D0 M0 hk hst I2 S1 ho hm okg hlen hz) fun y s3 h3 => ?_
      obtain ⟨H1, nw, I3, M1, e1, n1, _, n2, sm1, _⟩ := h3
      exact body 0 _ v4 H1 s3 y nw m em hz I3 sm1 M1 e1 n1 n2 _ _ _
  · rcases Nat.lt_or_ge i gs.length with hlt | hge
    · refine py_item (step_mid D0 I2 M i0 hlt) fun y s3 h3 => ?_
      obtain ⟨H1, I3, M1, e1, n1, _, k1, _⟩ := h3
      exact body i x v4 H1 s3 y nw m em hlt I3 (fun b u hb => k1 b u (ne_of_none hb nn) (sm b u hb)) M1 e1 n1 nn _ _ _
    · have ei : i = gs.length := Nat.le_antisymm hi hge
      refine py_end (end_mid D0 I2 M i0 ei) fun s3 h3 => ?_
      obtain ⟨I3, _⟩ := h3
      have e : gs.take i = gs := List.take_of_length_le hge
      rw [e] at ey
      exact wpAny_execs_nil ⟨_, H2, I3, q H2 x v4 sm ey⟩
end
end K76
namespace K76
open PySem PySem.Spec PyProof.Rows L2 GenW
open Sem (wp)

/-! ### enumerate(a generator) -/
theorem meets_enum_gen (a : Addr) (g : Nat) : Meets (Builtin.«enumerate.__new__» ⟨[.type "enumerate", .ref a], []⟩) (fun _ R s => s.heap.IsGen a g ∧
    R (.ok (.ret (.ref s.heap.objs.size))) { s with heap := s.heap.push { cls := .type "enumerate", data := .fields #[.none, .bool false, .ref a, rawInt 0, .none, .none] } }) :=
  .of_wp fun prog w A R s hyp => by
    obtain ⟨hp, gn, d, tk, os⟩ := s
    obtain ⟨hg, h⟩ := hyp
    have hsub := sub_enumerate
    have hg' : Heap.IsGen (Shared.heap ⟨hp, gn, d, tk, os⟩) a g := hg
    wp_walk
    refine wpAny_stack_any fun _ => wpAny_pure ?_
    split
    · rename_i c _ _ _ _ _
      cases ((c == Value.type "enumerate"))
      · wp_walk using wpAny_pyIter_gen hg'
        exact ⟨_, rfl, h⟩
      · wp_walk using wpAny_pyIter_gen hg'
        exact ⟨_, rfl, h⟩
    · wp_walk using wpAny_pyIter_gen hg'
      exact ⟨_, rfl, h⟩
section
variable {w : World} {prog : Program} {A : Around} {s : Shared} {E : Value → Shared → Prop}
theorem call_enum_gen {a : Addr} {g : Nat} {Q : Value → Shared → Prop} (hg : s.heap.IsGen a g)
    (h : ∀ h', IsEnum h' s.heap.objs.size a 0 .none → (∀ b o, s.heap.get? b = some o → h'.get? b = some o) → Q (.ref s.heap.objs.size) { s with heap := h' }) :
    wpAny (model prog w) A (call (.type "enumerate") [.ref a]) Q E s := by
  refine callType_new F.called_enumerate (by decide) (F.typeCall_enumerate_1 _) (F.newCall_enumerate_1 _) (fun obj => F.args_object_init_2 obj _) F.entry_enumerate_new (meets_enum_gen a g) ⟨hg, ?_⟩
  have he : IsEnum (s.heap.push { cls := .type "enumerate", data := .fields #[.none, .bool false, .ref a, rawInt 0, .none, .none] }) s.heap.objs.size a 0 .none := Heap.get?_push_size _ rfl
  exact ⟨⟨_, he, rfl⟩, h _ he fun b o x => Heap.get?_push_of_some _ x⟩
/-- the next pair -/
theorem enum_item {e a : Addr} {i : Nat} {old : Value} {R : Addr → Shared → Prop} {Q : Value → Shared → Prop} (he : IsEnum s.heap e a i old)
    (h : wpAny (model prog w) A (callSpecial? (.ref a) "__next__") (fun r s1 => ∃ p, r = some (.ref p) ∧ R p s1) (fun _ _ => False) s) (hR : ∀ p s1, R p s1 → IsEnum s1.heap e a i old)
    (hQ : ∀ p (s1 : Shared) (h' : Heap), R p s1 → IsEnumOut h' e a ((i : Int) + 1) (.ref p) s1.heap.objs.size → h'.get? s1.heap.objs.size = some { cls := .type "tuple", data := .seq #[.int i s1.toks, .ref p] } →
      (∀ b o, b ≠ e → s1.heap.get? b = some o → h'.get? b = some o) → Q (.ref s1.heap.objs.size) { s1 with heap := h', toks := s1.toks + 1 }) :
    wpAny (model prog w) A (Builtin.«enumerate.__next__» ⟨[.ref e], []⟩) (fun r s' => ∃ v, r = .done (.ret v) ∧ Q v s') E s := by
  show wpAny (model prog w) _ (field (.ref e) 2 >>= _) _ _ _
  refine wpAny_bind (wpAny_field he rfl (x := .ref a) rfl ?_)
  have nx : wpAny (model prog w) A (Builtin.SmallTypes.nextOf (.ref a)) (fun v s1 => ∃ p, v = .ref p ∧ R p s1) (fun _ _ => False) s := by
    rw [Builtin.SmallTypes.nextOf]
    refine wpAny_bind (wpAny_mono h (fun r s1 hr => ?_) fun _ _ z => z)
    obtain ⟨p, rfl, hp⟩ := hr
    exact wpAny_pure ⟨p, rfl, hp⟩
  refine wpAny_bind (wpAny_mono nx (fun v s1 hv => ?_) fun _ _ z => z.elim)
  obtain ⟨p, rfl, hp⟩ := hv
  have he1 := hR p s1 hp
  have fin := fun h' => hQ p s1 h' hp
  obtain ⟨hh, gn, d, tk, os⟩ := s1
  have hel : e < hh.objs.size := Heap.lt_size he1
  show wpAny _ _ (field (.ref e) 3 >>= _) _ _ ⟨hh, gn, d, tk, os⟩
  refine wpAny_bind (wpAny_field he1 rfl (x := rawInt i) rfl ?_)
  show wpAny _ _ (field (.ref e) 4 >>= _) _ _ ⟨hh, gn, d, tk, os⟩
  refine wpAny_bind (wpAny_field he1 rfl (x := .none) rfl ?_)
  show wpAny _ _ (mkInt i >>= _) _ _ ⟨hh, gn, d, tk, os⟩
  refine wpAny_bind ?_
  refine wpAny_mkInt ?_
  show wpAny _ _ (setField (.ref e) 3 (rawInt ((i : Int) + 1)) >>= _) _ _ ⟨hh, gn, d, tk + 1, os⟩
  refine wpAny_bind (wpAny_setField_rec he1 (by simp) fun h2 he2 k2 => ?_)
  have he2 : IsEnum h2 e a ((i : Int) + 1) old := he2
  show wpAny _ _ (setField (.ref e) 4 .none >>= _) _ _ ⟨h2, gn, d, tk + 1, os⟩
  refine wpAny_bind (wpAny_setField_rec he2 (by simp) fun h3 he3 k3 => ?_)
  have he3 : IsEnum h3 e a ((i : Int) + 1) old := he3
  show wpAny _ _ (newTuple [.int i tk, .ref p] >>= _) _ _ ⟨h3, gn, d, tk + 1, os⟩
  refine wpAny_bind ?_
  refine wpAny_newTuple ?_
  have z3 : h3.objs.size = hh.objs.size := k3.1.trans k2.1
  have he4 : IsEnum (h3.push { cls := .type "tuple", data := .seq #[.int i tk, .ref p] }) e a ((i : Int) + 1) old := Heap.get?_push_of_some _ he3
  have t4 : (h3.push { cls := .type "tuple", data := .seq #[.int i tk, .ref p] }).get? hh.objs.size = some { cls := .type "tuple", data := .seq #[.int i tk, .ref p] } := by
    rw [← z3]
    exact Heap.get?_push_size (h3) rfl
  have k4 : ∀ b o, b ≠ e → hh.get? b = some o → (h3.push { cls := .type "tuple", data := .seq #[.int i tk, .ref p] }).get? b = some o := fun b o hb q => Heap.get?_push_of_some _ (k3.extBut b o hb (k2.extBut b o hb q))
  show wpAny _ _ (Builtin.SmallTypes.ownedTupleIsFree (.ref e) >>= _) _ _ ⟨h3.push { cls := .type "tuple", data := .seq #[.int i tk, .ref p] }, gn, d, tk + 1, os⟩
  rw [z3]
  generalize h3.push { cls := .type "tuple", data := .seq #[.int i tk, .ref p] } = h4 at he4 t4 k4
  refine wpAny_bind ?_
  rw [Builtin.SmallTypes.ownedTupleIsFree]
  refine wpAny_bind (wpAny_field he4 rfl (x := .none) rfl (wpAny_pure ?_))
  simp only [if_true]
  refine wpAny_bind ?_
  refine wpAny_rule ?_
  refine wpAny_bind (wpAny_field he4 rfl (x := old) rfl ?_)
  refine wpAny_bind (wpAny_setField_rec he4 (by simp) fun h5 he5 k5 => ?_)
  have he5 : IsEnum h5 e a ((i : Int) + 1) (.ref p) := he5
  show wpAny _ _ (Builtin.SmallTypes.ownedTupleHandOut (.ref e) (.ref hh.objs.size) >>= _) _ _ ⟨h5, gn, d, tk + 1, os⟩
  refine wpAny_bind ?_
  rw [Builtin.SmallTypes.ownedTupleHandOut]
  refine wpAny_bind (wpAny_setField_rec he5 (by simp) fun h6 he6 k6 => ?_)
  have he6 : IsEnumOut h6 e a ((i : Int) + 1) (.ref p) hh.objs.size := he6
  refine wpAny_setField_rec he6 (by simp) fun h7 he7 k7 => ?_
  have k : ∀ b o, b ≠ e → h4.get? b = some o → h7.get? b = some o := fun b o hb q => k7.extBut b o hb (k6.extBut b o hb (k5.extBut b o hb q))
  exact wpAny_bind (wpAny_letGo (wpAny_pure ⟨_, rfl, fin h7 he7 (k _ _ (Nat.ne_of_gt hel) t4) fun b o hb q => k b o hb (k4 b o hb q)⟩))
theorem enum_py_item {e a : Addr} {i : Nat} {old : Value} {R : Addr → Shared → Prop} {Q : Option Value → Shared → Prop} (he : IsEnum s.heap e a i old)
    (h : wpAny (model prog w) A.in1 (callSpecial? (.ref a) "__next__") (fun r s1 => ∃ p, r = some (.ref p) ∧ R p s1) (fun _ _ => False) s) (hR : ∀ p s1, R p s1 → IsEnum s1.heap e a i old)
    (hQ : ∀ p (s1 : Shared) (h' : Heap), R p s1 → IsEnumOut h' e a ((i : Int) + 1) (.ref p) s1.heap.objs.size → h'.get? s1.heap.objs.size = some { cls := .type "tuple", data := .seq #[.int i s1.toks, .ref p] } →
      (∀ b o, b ≠ e → s1.heap.get? b = some o → h'.get? b = some o) → Q (some (.ref s1.heap.objs.size)) { s1 with heap := h', toks := s1.toks + 1 }) :
    (wpAny (model prog w) A (pyNext (.ref e)) Q E s) := by
  have ety : s.TypeIs (.ref e) "enumerate" := ⟨_, he, rfl⟩
  unfold pyNext
  refine wpAny_bind (wpAny_attempt (wpAny_callSpecial?_slot (name := Str.ofString "__next__") ety F.slot_enumerate_next
    (wpAny_call_entry F.slot_enumerate_next ety F.entry_enumerate_next (enum_item he h hR fun p s1 h' r1 r2 r3 r4 => wpAny_pure (hQ p s1 h' r1 r2 r3 r4)) (F.args_enumerate_next_1 _))))
theorem enum_py_end {e a : Addr} {i : Int} {old : Value} {R : Shared → Prop} {Q : Option Value → Shared → Prop} (he : IsEnum s.heap e a i old)
    (h : wpAny (model prog w) A.in1 (callSpecial? (.ref a) "__next__") (fun _ _ => False) (fun x s1 => StopAt x s1 ∧ R s1) s) (hQ : ∀ s1, R s1 → Q none s1) : wpAny (model prog w) A (pyNext (.ref e)) Q E s := by
  have ety : s.TypeIs (.ref e) "enumerate" := ⟨_, he, rfl⟩
  unfold pyNext
  refine wpAny_bind (wpAny_attempt (wpAny_callSpecial?_slot (name := Str.ofString "__next__") ety F.slot_enumerate_next
    (wpAny_call_entry F.slot_enumerate_next ety F.entry_enumerate_next ?_ (F.args_enumerate_next_1 _))))
  show wpAny (model prog w) _ (field (.ref e) 2 >>= _) _ _ _
  refine wpAny_bind (wpAny_field he rfl (x := .ref a) rfl ?_)
  rw [Builtin.SmallTypes.nextOf]
  refine wpAny_bind (wpAny_bind (wpAny_mono h (fun _ _ z => z.elim) fun x s1 hr => ?_))
  obtain ⟨⟨x, rfl, ox, hx, hc⟩, hR⟩ := hr
  refine wpAny_bind (wpAny_isInstance (T := "StopIteration") (b := true) ⟨ox, hx, hc⟩ isSubtype_stop ?_)
  exact wpAny_pure (hQ s1 hR)
end
end K76
namespace K76
open PySem PySem.Spec PyProof.Rows L2 GenW
section
variable {X : Cx} {pins : List (Addr × Obj)} {B : Around} {HF : Hp} {L a g : Addr} {gs o : List Nat}
/-- name.append(name): the state as it is -/
theorem app3 {E : Value → Shared → Prop} {σ : L2.St} {H : Hp} {s : Shared} {i j : Nat} {x y : Str} {D : Addr} {xs : List V} {v : V} {q1 q2 q3 q4 q5 : Pos} {Q : Flow → Shared → Prop} (cs : X.env.cells = []) (I : Inv X pins σ H s)
    (hi : X.N[i]? = some x) (hk : X.env.scope.names.lookup x = some .local) (hj : X.N[j]? = some y) (hkj : X.env.scope.names.lookup y = some .local) (e1 : σ[i]? = some (some (.ref D))) (e2 : σ[j]? = some (some v)) (hD : H D = some (.lst xs)) (hz : xs.length < sizeLine)
    (hx : (x == ("__debug__" : Str)) = false) (hy : (y == ("__debug__" : Str)) = false) (hbase : attributeBase (.Name x q1) "append" X.env (eval (.Name x q1) X.env) = eval (.Name x q1) X.env)
    (hfew : ((backTo q4 (starEach [.Name y q3] X.env)).all (fun x => !x.1) && (backToKw q4 (keywordEach [] X.env)).all (fun x => x.1.isSome) && decide (([.Name y q3] : List Expr).length + ([] : List Keyword).length + (if ([] : List Keyword).isEmpty then 0 else 1) < 30)) = true)
    (hline : (q2.endLine == q4.line) = true) (h : ∀ h', Inv X pins σ (upd H D (.lst (xs ++ [v]))) { s with heap := h' } → Heap.SameBut D s.heap h' → Q .next { s with heap := h' }) :
    wpAny (model X.prog X.w) X.A (exec (.Expr (.Call (.Attribute (.Name x q1) "append" q2) [.Name y q3] [] q4) q5) X.env) Q E s := by
  refine wpAny_Expr_any ?_ I.quiet (by rfl)
  refine wpAny_Call_method_late hbase hfew hline rfl (read3 cs I hi hk e1 (fun u ru => ?_) hx)
  obtain ⟨h1, h2⟩ := tyV_is (T := "list") I ru (.inl ⟨rfl, xs, SqL.of hD⟩)
  refine ⟨"list", "list.append", F.plainAttrs_list, F.slot_list_append, by rfl, h1, h2, ?_⟩
  refine Calls.callWith_builtin (by rfl) (Calls.evalArgs_plain ?_)
  refine Calls.spliced_cons (read3 cs I hj hkj e2 (fun u2 ru2 => ?_) hy)
  refine Calls.spliced_nil ?_
  obtain rfl : u = Value.ref D := ru
  obtain ⟨_, its, n, ri, e⟩ := I.hok D _ hD
  have hl := ri.length
  refine append_at (hsz := by rw [List.size_toArray]; omega) e fun h' sb hold => ?_
  have ho' := hold
  refine h h' (I.write (t' := s.toks) (by rw [hD]; trivial) (.inl rfl) (fun b u hb q => (sb.2 b hb).trans q) ⟨_, ho'⟩ ⟨by rw [List.length_append]; exact hz, its ++ [u2], n + 1, ri.append (.cons ru2 .nil), ?_⟩) sb
  rw [ho']
  simp
/-- the drawer's own enumerate turns -/
theorem mid_enum (D : Draw X pins B HF L a) {i : Nat} {nw e : Addr} {s : Shared} {H : Hp} {h' : Heap} {t : Nat} (M : Mid X B HF L a g gs o i nw s H) (he : ∃ (ob : Obj) (vs : Array Value), s.heap.get? e = some ob ∧ ob.cls = .type "enumerate" ∧ ob.data = .fields vs ∧ vs[2]? = some (.ref a))
    (hL : L < e) (k : ∀ b ob, b ≠ e → s.heap.get? b = some ob → h'.get? b = some ob) : Mid X B HF L a g gs o i nw { s with heap := h', toks := t } H := by
  obtain ⟨⟨gst, gl, d, e', it, hgs, lp, iso, hgo⟩, ⟨og, nm, qn, eg, cg, rg⟩, hn, pl, fL, fa⟩ := M
  obtain ⟨ob, vs, q1, q2, q3, q4⟩ := he
  obtain ⟨ogl, egl, cgl⟩ := lst_cls lp.glO
  obtain ⟨onw, enw, cnw⟩ := lst_cls lp.nwO
  obtain ⟨odd, edd, cdd⟩ := dk_cls lp.dO
  obtain ⟨old, hen⟩ := lp.en
  obtain ⟨oit, eit, cit, dit⟩ := lp.li
  have ita : it ≠ a := obj_ne eit eg (by rw [cit, cg]; decide)
  have ne1 : e' ≠ e := fun z => by
    have hen' : s.heap.get? e' = some _ := hen
    rw [z, q1] at hen'
    cases hen'
    cases q3
    have h3 : (some (Value.ref it) : Option Value) = some (.ref a) := q4
    injection h3 with h4
    injection h4 with h5
    exact ita h5
  refine ⟨⟨gst, gl, d, e', it, hgs, loop_keeps lp fun b o2 hb q => k b o2 ?_ q, iso, hgo⟩, ⟨og, nm, qn, k a og (obj_ne eg q1 (by rw [cg, q2]; decide)) eg, cg, rg⟩, hn, pl, fL, fa⟩
  rcases hb with z | z | z | z | z | z
  · rw [z]
    exact Nat.ne_of_lt hL
  · rw [z]
    exact obj_ne enw q1 (by rw [cnw, q2]; decide)
  · rw [z]
    exact obj_ne egl q1 (by rw [cgl, q2]; decide)
  · rw [z]
    exact obj_ne edd q1 (by rw [cdd, q2]; decide)
  · rw [z]
    exact ne1
  · rw [z]
    exact obj_ne eit q1 (by rw [cit, q2]; decide)
end
/-! ### the plain law of exchanges -/
theorem exch_add : ∀ (l : List Nat) (o : List Nat) (k g : Nat), exch (l ++ [g]) o k = exch l o k ++ (if bad (plays l o) g then [k + l.length] else [])
  | [], o, k, g => by
    show (if bad o g then k :: exch [] (step o g) (k + 1) else exch [] (step o g) (k + 1)) = [] ++ (if bad o g then [k + 0] else [])
    cases bad o g <;> rfl
  | x :: l, o, k, g => by
    have ih := exch_add l (step o x) (k + 1) g
    show (if bad o x then k :: exch (l ++ [g]) (step o x) (k + 1) else exch (l ++ [g]) (step o x) (k + 1)) = (if bad o x then k :: exch l (step o x) (k + 1) else exch l (step o x) (k + 1)) ++ (if bad (plays l (step o x)) g then [k + (l.length + 1)] else [])
    rw [ih, show k + 1 + l.length = k + (l.length + 1) by omega]
    cases bad o x <;> rfl
theorem exch_take {gs o : List Nat} {i g : Nat} (h : gs[i]? = some g) : exch (gs.take (i + 1)) o 0 = exch (gs.take i) o 0 ++ (if bad (plays (gs.take i) o) g then [i] else []) := by
  have hi : i < gs.length := (List.getElem?_eq_some_iff.mp h).1
  rw [List.take_add_one, h]
  show exch (gs.take i ++ [g]) o 0 = _
  rw [exch_add, List.length_take, Nat.min_eq_left (Nat.le_of_lt hi), Nat.zero_add]
theorem exch_len : ∀ (l : List Nat) (o : List Nat) (k : Nat), (exch l o k).length ≤ l.length
  | [], _, _ => Nat.le_refl _
  | x :: l, o, k => by
    have ih := exch_len l (step o x) (k + 1)
    show (if bad o x then k :: exch l (step o x) (k + 1) else exch l (step o x) (k + 1)).length ≤ l.length + 1
    split
    · rw [List.length_cons]
      omega
    · omega
theorem swp_ne {o : List Nat} {g : Nat} (h1 : 1 ≤ g) (h2 : g < o.length) (hb : bad o g = true) : swp o g ≠ o := fun e => by
  have q : atN (swp o g) g = atN o (g - 1) := by
    unfold atN swp
    rw [List.getD_eq_getElem?_getD, List.getElem?_set_self (by rw [List.length_set]; exact h2)]
    rfl
  rw [e] at q
  have hb' := of_decide_eq_true hb
  omega
/-- a step changes the order just where it exchanges -/
theorem step_ne {o : List Nat} {g : Nat} (h1 : 1 ≤ g) (h2 : g < o.length) : decide (step o g = o) = !bad o g := by
  unfold step
  cases hb : bad o g with
  | true =>
    rw [if_pos rfl, decide_eq_false (swp_ne h1 h2 hb)]
    rfl
  | false =>
    rw [if_neg Bool.false_ne_true, decide_eq_true rfl]
    rfl
end K76
namespace K76
open PySem PySem.Spec PyProof.Rows L2 GenW
def exN : List Str := ["schedule", "order", "missed", "now", "found", "at", "later"]
theorem exN_nd : exN.Nodup := by decide +kernel
/-- ahead of a turn -/
def ExIv (X : Cx) (pins : List (Addr × Obj)) (HF : Hp) (p a0 mt fnd L a g e f : Addr) (cd : Value) (gs o : List Nat) (s1 : Shared) (m : Nat) (s' : Shared) : Prop :=
  ∃ (i : Nat) (x : Addr) (v5 v6 : Option V) (H' : Hp) (old : Value), m = gs.length - i ∧ i ≤ gs.length ∧ Inv X pins [some (.ref p), some (.ref a0), some (.ref mt), some (.ref x), some (.ref fnd), v5, v6] H' s' ∧ (∀ b u, b ≠ fnd → HF b = some u → H' b = some u) ∧
    H' fnd = some (.lst (nv (exch (gs.take i) o 0))) ∧ H' x = some (.lst (nv (plays (gs.take i) o))) ∧ x ≠ fnd ∧ IsEnum s'.heap e a ((i : Nat) : Int) old ∧ H' e = none ∧
    ((i = 0 ∧ H' = HF ∧ s'.gens[g]? = some (.fresh (.func (C8.fnBody (top 24)) (envOfC "orders_after" gSc L f cd))) ∧ ∀ b ob, L ≤ b → s1.heap.get? b = some ob → s'.heap.get? b = some ob) ∨
      (0 < i ∧ ∃ nw, Mid X X.A.in1 HF L a g gs o i nw s' H' ∧ x ≠ nw ∧ HF nw = none))
abbrev exBody (c0 c1 c2 a1 a2 a3 a4 a5 a6 b0 b1 b2 : Pos) : List Stmt :=
  [.If (.Compare (.Name "later" c0) [.NotEq] [.Name "now" c1] c2) [.Expr (.Call (.Attribute (.Name "found" a1) "append" a2) [.Name "at" a3] [] a4) a5] [] a6, .Assign [.Name "now" b0] (.Name "later" b1) b2]
section
variable {X : Cx} {pins : List (Addr × Obj)} {C T0 f : Addr} {fd : FuncData}
theorem ex_ix (R : Dr X C T0 f fd) (hN : X.N = exN) : ∀ (i : Nat) (x : Str), exN[i]? = some x → X.N[i]? = some x ∧ X.env.scope.names.lookup x = some .local := fun i x e => by
  have e' : X.N[i]? = some x := by
    rw [hN]
    exact e
  exact ⟨e', R.lk x (List.mem_of_getElem? e')⟩
/-- a turn's body -/
theorem ex_body (R : Dr X C T0 f fd) (hu : X.A.units + 64 < cLine) (hN : X.N = exN) {HF : Hp} {p a0 mt fnd L a g e : Addr} {cd : Value} {gs o : List Nat} {s1 : Shared} {m : Nat} (D0 : Draw X pins X.A.in1 HF L a) (hLe : L < e) (hfF : HF fnd ≠ none) (hg400 : gs.length ≤ 400)
    {c0 c1 c2 a1 a2 a3 a4 a5 a6 b0 b1 b2 : Pos} (hline : (a2.endLine == a4.line) = true) (hbase : attributeBase (.Name "found" a1) "append" X.env (eval (.Name "found" a1) X.env) = eval (.Name "found" a1) X.env)
    {i x y k nw : Nat} {H1 : Hp} {s2 : Shared} {old : Value} {E : Value → Shared → Prop} (em : m = gs.length - i) (hk : gs[i]? = some k) (k1 : 1 ≤ k ∧ k < o.length)
    (I2 : Inv X pins [some (.ref p), some (.ref a0), some (.ref mt), some (.ref x), some (.ref fnd), some (iv i), some (.ref y)] H1 s2) (kF : ∀ b u, b ≠ fnd → HF b = some u → H1 b = some u) (ef : H1 fnd = some (.lst (nv (exch (gs.take i) o 0)))) (ex : H1 x = some (.lst (nv (plays (gs.take i) o))))
    (M1 : Mid X X.A.in1 HF L a g gs o (i + 1) nw s2 H1) (ey : H1 y = some (.lst (nv (plays (gs.take (i + 1)) o)))) (ny : y ≠ nw) (nf : y ≠ fnd) (nn : HF nw = none) (he : IsEnum s2.heap e a (((i + 1 : Nat)) : Int) old) (heN : H1 e = none) :
    wpAny (model X.prog X.w) X.A (execs (exBody c0 c1 c2 a1 a2 a3 a4 a5 a6 b0 b1 b2) X.env) (fun f' s4 => match f' with
      | .next | .cont => ∃ m', m' < m ∧ ExIv X pins HF p a0 mt fnd L a g e f cd gs o s1 m' s4
      | .brk => False
      | .ret v => False) E s2 := by
  have nd : X.N.Nodup := by
    rw [hN]
    exact exN_nd
  have ix := ex_ix R hN
  have hi : i < gs.length := (List.getElem?_eq_some_iff.mp hk).1
  have hfe : fnd ≠ e := fun z => by
    rw [← z, ef] at heN
    cases heN
  have tail : ∀ (H3 : Hp) (s3 : Shared), Inv X pins [some (.ref p), some (.ref a0), some (.ref mt), some (.ref x), some (.ref fnd), some (iv i), some (.ref y)] H3 s3 → (∀ b u, b ≠ fnd → HF b = some u → H3 b = some u) → H3 fnd = some (.lst (nv (exch (gs.take (i + 1)) o 0))) →
      Mid X X.A.in1 HF L a g gs o (i + 1) nw s3 H3 → H3 y = some (.lst (nv (plays (gs.take (i + 1)) o))) → IsEnum s3.heap e a (((i + 1 : Nat)) : Int) old → H3 e = none →
      wpAny (model X.prog X.w) X.A (execs [.Assign [.Name "now" b0] (.Name "later" b1) b2] X.env) (fun f' s4 => match f' with
        | .next | .cont => ∃ m', m' < m ∧ ExIv X pins HF p a0 mt fnd L a g e f cd gs o s1 m' s4
        | .brk => False
        | .ret v => False) E s3 := by
    intro H3 s3 I3 kF3 ef3 M3 ey3 he3 hN3
    refine wpAny_execs_cons (wpAny_Assign_Name (read3 (i := 6) R.cs I3 (ix 6 _ rfl).1 (ix 6 _ rfl).2 rfl fun u ru => ?_) (by rfl))
    refine store3 (v := V.ref y) (i := 3) R.cs I3 nd (ix 3 _ rfl).1 (ix 3 _ rfl).2 ru fun h4 I4 sb => wpAny_execs_nil ?_
    have M4 := mid_but (t := s3.toks + 1) (H' := H3) D0 M3 (.inl ⟨rfl, R.hst⟩) (fun b ob hb q => (sb.2 b hb).trans q) (fun _ _ => rfl)
    refine ⟨gs.length - (i + 1), by omega, i + 1, y, some (iv i), some (.ref y), H3, old, rfl, hi, I4, kF3, ef3, ey3, nf, (sb.2 e ?_).trans he3, hN3, .inr ⟨Nat.succ_pos i, nw, M4, ny, nn⟩⟩
    exact fun z => absurd (Nat.lt_trans D0.loc hLe) (by rw [z]; exact Nat.lt_irrefl _)
  have hsn := step_ne (o := plays (gs.take i) o) (g := k) k1.1 (by rw [plays_len]; exact k1.2)
  rw [← plays_take hk] at hsn
  have hex := exch_take (o := o) hk
  refine wpAny_execs_cons (wpAny_If (wpAny_isTrue_Compare1 (read3 (i := 6) R.cs I2 (ix 6 _ rfl).1 (ix 6 _ rfl).2 rfl fun u ru => read3 (i := 3) R.cs I2 (ix 3 _ rfl).1 (ix 3 _ rfl).2 rfl fun u2 ru2 => ?_) (nomark _)))
  obtain ⟨as, r1⟩ := Dp.reads I2 (dl (plays (gs.take (i + 1)) o)) (.ref y) u (dp_nv (SqL.of ey)) ru
  obtain ⟨bs, r2⟩ := Dp.reads I2 (dl (plays (gs.take i) o)) (.ref x) u2 (dp_nv (SqL.of ex)) ru2
  refine SeqAt.compareNe_shaped r1 r2 (dl_shaped _) (dl_shaped _) hu (wpAny_truthy_bool ?_)
  rw [dl_eqv, hsn, Bool.not_not]
  cases hb : bad (plays (gs.take i) o) k with
  | true =>
    rw [if_pos rfl]
    rw [hb, if_pos rfl] at hex
    have hz : (nv (exch (gs.take i) o 0)).length < sizeLine := by
      rw [nv_len]
      refine small (k := 400) ?_
      have := exch_len (gs.take i) o 0
      rw [List.length_take] at this
      omega
    refine wpAny_execs_cons (app3 (i := 4) (j := 5) R.cs I2 (ix 4 _ rfl).1 (ix 4 _ rfl).2 (ix 5 _ rfl).1 (ix 5 _ rfl).2 rfl rfl ef hz (by decide) (by decide) hbase (by rfl) hline fun h3 I3 sb => wpAny_execs_nil ?_)
    have M3 := mid_but (t := s2.toks) (H' := upd H1 fnd (.lst (nv (exch (gs.take i) o 0) ++ [iv i]))) D0 M1 (.inr hfF) (fun b ob hb q => (sb.2 b hb).trans q) (fun b hb => upd_ne hb)
    refine tail _ _ I3 (fun b u hb hu => ?_) ?_ M3 ?_ ((sb.2 e hfe.symm).trans he) ?_
    · rw [upd_ne hb]
      exact kF b u hb hu
    · rw [upd_same, hex, nv_app]
      rfl
    · rw [upd_ne nf]
      exact ey
    · rw [upd_ne hfe.symm]
      exact heN
  | false =>
    rw [if_neg (show ¬ (false = true) from Bool.false_ne_true)]
    rw [hb, if_neg Bool.false_ne_true, List.append_nil] at hex
    refine wpAny_execs_nil (tail H1 s2 I2 kF ?_ M1 ey he heN)
    rw [hex]
    exact ef
end
end K76
namespace K76
open PySem PySem.Spec PyProof.Rows L2 GenW
def tExch (K : PySem.W.Frag) (C : Addr) : TS := fun D σ H => ∃ (p a0 mt x fnd : Addr) (n : Nat) (gs o : List Nat), σ = [some (.ref p), some (.ref a0), some (.ref mt), some (.ref x), some (.ref fnd), none, none] ∧ Sch C H p n gs ∧ H a0 = some (.lst (nv o)) ∧ H x = some (.lst (nv o)) ∧ H fnd = some (.lst []) ∧ x ≠ fnd ∧
  SqT K H mt [] ∧ (∀ x ∈ gs, 1 ≤ x ∧ x < o.length) ∧ o.length ≤ 12 ∧ ∀ (H' : Hp) (v3 v5 v6 : Option V), (∀ b u, b ≠ fnd → H b = some u → H' b = some u) → H' fnd = some (.lst (nv (exch gs o 0))) → D.nx [some (.ref p), some (.ref a0), some (.ref mt), v3, some (.ref fnd), v5, v6] H'
section
variable {X : Cx} {C T0 f : Addr} {fd : FuncData}
theorem ps_exch (R : Dr X C T0 f fd) (hr : Room 4 X.A) (hg : Gl X "orders_after") (hge : Gl X "enumerate") (hc : X.calm = true) (hN : X.N = exN) {t1 t2 tp n0 n1 q0 q1 q2 q3 q4 q5 c0 c1 c2 a1 a2 a3 a4 a5 a6 b0 b1 b2 pos : Pos} {kk : Nat} (hline : (a2.endLine == a4.line) = true)
    (hbase : attributeBase (.Name "found" a1) "append" X.env (eval (.Name "found" a1) X.env) = eval (.Name "found" a1) X.env) (hst : X.xe = fun _ _ => False) :
    PS X (.For (.Tuple [.Name "at" t1, .Name "later" t2] kk tp) (.Call (.Name "enumerate" n0) [.Call (.Name "orders_after" q0) [.Name "schedule" q1, .Name "order" q2] (kwM q3 q4) q5] [] n1) (exBody c0 c1 c2 a1 a2 a3 a4 a5 a6 b0 b1 b2) [] pos) (tExch X.K C) := by
  refine ⟨fun pins s σ H D I hyp => ?_⟩
  have h := hyp
  obtain ⟨p, a0, mt, x, fnd, n, gs, o, rfl, S1, ho, hx, hf, hxf, hm, okg, hlen, q⟩ := h
  have ix := ex_ix R hN
  have nd : X.N.Nodup := by
    rw [hN]
    exact exN_nd
  have h400 : gs.length ≤ 400 := by
    obtain ⟨_, _, _, _, _, _, h⟩ := S1
    exact h.2.2
  refine wpAny_For (Call_ (ld_blt I hge R.G.enum boot_enumerate (PyProof.Rows.callWith_type1 (Calls.spliced_cons (thn (gen_eval R.D (hr.mono (by decide)) R.cs hg I (ix 0 _ rfl).1 (ix 1 _ rfl).1 (ix 2 _ rfl).1 (ix 0 _ rfl).2 (ix 1 _ rfl).2 (ix 2 _ rfl).2 rfl rfl rfl) fun v s1 h1 => Calls.spliced_nil ?_)) (by rfl) rfl))) (by intro _; rfl)
  obtain ⟨cd, L, a, g, sC, rfl, M0, I1, z0, z1, z2⟩ := h1
  refine call_enum_gen M0.gen fun h2 he hk => wpAny_pyIter_enum he ?_
  have I2 := I1.kept (t' := s1.toks) hk
  have D0 : Draw X pins X.A.in1 H L a := ⟨z2, R.cs, z0, z1, M0.La, M0.frL, M0.old, M0.hL, M0.ha, M0.bsz, hr.in1, I1.ok.frames⟩
  have aE : a < s1.heap.objs.size := by
    obtain ⟨_, _, _, z, _⟩ := M0.gen
    exact Heap.lt_size z
  have hLe : L < s1.heap.objs.size := Nat.lt_trans M0.La aE
  have eN : H s1.heap.objs.size = none := I1.hok.fresh (Nat.le_refl _)
  generalize s1.heap.objs.size = e at he aE hLe eN
  have hfF : H fnd ≠ none := by
    rw [hf]
    intro z
    cases z
  refine codeAny_forLoop_any (ExIv X pins H p a0 mt fnd L a g e f cd gs o s1) ?_ gs.length ⟨0, x, none, none, H, .none, rfl, Nat.zero_le _, I2, fun _ _ _ z => z, hf, hx, hxf, he, eN, .inl ⟨rfl, rfl, M0.st, fun b ob _ z => hk b ob z⟩⟩
  rintro m s3 ⟨i, y, v5, v6, H3, old, em, hi, I3, kF, ef, ey, nyf, he3, hN3, hcase⟩
  have crE : CritF e ({ cls := .type "enumerate", dict := none, data := .fields #[.none, .bool false, .ref a, rawInt ((i : Nat) : Int), .none, old], slots := #[] } : Obj) := fun v z => by cases z
  rcases Nat.lt_or_ge i gs.length with hlt | hge2
  · obtain ⟨k, hgk⟩ : ∃ k, gs[i]? = some k := ⟨gs[i], List.getElem?_eq_getElem hlt⟩
    have draw : wpAny (model X.prog X.w) X.A.in1 (callSpecial? (.ref a) "__next__") (fun r s4 => ∃ z, r = some (.ref z) ∧ ∃ H4 nw, Inv X pins [some (.ref p), some (.ref a0), some (.ref mt), some (.ref y), some (.ref fnd), v5, v6] H4 s4 ∧ Mid X X.A.in1 H L a g gs o (i + 1) nw s4 H4 ∧
        H4 z = some (.lst (nv (plays (gs.take (i + 1)) o))) ∧ z ≠ nw ∧ H3 z = none ∧ H nw = none ∧ (∀ b u, b ≠ nw → H3 b = some u → H4 b = some u) ∧ IsEnum s4.heap e a ((i : Nat) : Int) old ∧ H4 e = none ∧ y ≠ nw) (fun _ _ => False) s3 := by
      rcases hcase with ⟨i0, eH, hgs, hkk⟩ | ⟨i0, nw, M, ny, nn⟩
      · subst i0 eH
        refine wpAny_mono (first_next R.G R.cE R.cX R.cG D0 M0 hkk hgs I3 S1 ho hm okg hlen hlt) (fun r s4 h4 => ?_) fun _ _ z => z
        obtain ⟨z, rfl, H4, nw, I4, M4, e1, n1, n2, n3, sm, kp⟩ := h4
        obtain ⟨w1, w2⟩ := kp e _ he3 hN3 hLe crE
        exact ⟨z, rfl, H4, nw, I4, M4, e1, n1, n2, n3, fun b u _ hu => sm b u hu, w1, w2, fun z => by rw [z, n3] at ey; cases ey⟩
      · refine wpAny_mono (step_mid D0 I3 M i0 hlt) (fun r s4 h4 => ?_) fun _ _ z => z
        obtain ⟨z, rfl, H4, I4, M4, e1, n1, n2, k1, kp, fr⟩ := h4
        have cE : Crit a e ({ cls := .type "enumerate", dict := none, data := .fields #[.none, .bool false, .ref a, rawInt ((i : Nat) : Int), .none, old], slots := #[] } : Obj) := ⟨crE, (show (Value.type "enumerate" : Value) ≠ .type "list_iterator" by decide), fun _ => ⟨_, rfl, rfl⟩⟩
        have nN : ¬ NowIs L s3.heap e := fun ⟨m2, y1, y2⟩ => by
          obtain ⟨gst, gl, d, e', it, _, lp, _, _⟩ := M.go
          obtain ⟨m3, y3, y4, _⟩ := lp.loc
          rw [ns_one y1 y3, y4] at y2
          injection y2 with y2
          injection y2 with y2
          rw [← y2, M.hn] at hN3
          cases hN3
        refine ⟨z, rfl, H4, nw, I4, M4, e1, n1, n2, nn, k1, (kp e _ he3 (.inr ⟨hLe, cE⟩) nN).1 fun hf => absurd (D0.frL e hf) (Nat.lt_asymm hLe), fr e _ he3 hN3 (.inr ⟨hLe, cE⟩), ny⟩
    refine enum_py_item he3 draw (fun z s4 ⟨_, _, _, _, _, _, _, _, _, w1, _⟩ => w1) fun z s4 h5 ⟨H4, nw, I4, M4, e1, n1, n2, nn, k4, he4, hN4, nyw⟩ ho5 hT hk5 => ?_
    have eL : e ≠ X.env.locals := fun z => absurd (Nat.lt_trans D0.loc hLe) (by rw [z]; exact Nat.lt_irrefl _)
    have e0 : e ∈ X.ex ∨ X.s_0.heap.objs.size ≤ e := .inr (Nat.le_trans z0 (Nat.le_of_lt hLe))
    have ecs : ∀ x c, X.env.cells.lookup x = some c → c ≠ e := fun x c z => by
      rw [R.cs] at z
      cases z
    have epn : ∀ p ∈ X.pn ++ pins, p.1 ≠ e := fun p hp => Nat.ne_of_lt (Nat.lt_trans (z2 p hp) hLe)
    have I5 := I4.turned (t' := s4.toks + 1) (it := e) hk5 hN4 eL e0 ecs epn
    have M5 := mid_enum (t := s4.toks + 1) D0 M4 ⟨_, _, he4, rfl, rfl, rfl⟩ hLe hk5
    refine wpAny_letOwnedTupleGo_enum ho5 fun h6 he6 sb6 => ?_
    have hk6 : ∀ b ob, b ≠ e → h5.get? b = some ob → h6.get? b = some ob := fun b ob hb q => (sb6.2 b hb).trans q
    have I6 := I5.turned (t' := s4.toks + 1) (it := e) hk6 hN4 eL e0 ecs epn
    have M6 := mid_enum (t := s4.toks + 1) D0 M5 ⟨_, _, ho5, rfl, rfl, rfl⟩ hLe hk6
    have eT : e < s4.heap.objs.size := Heap.lt_size he4
    have hT6 := hk6 _ _ (Nat.ne_of_gt eT) hT
    refine assign_Tuple_tuple (items := #[.int i s4.toks, .ref z]) (I6.ok.hd hc) ⟨_, hT6, rfl, _, rfl⟩ (by rfl) (by rfl) fun h7 hx7 => ?_
    have hk7 : ∀ b ob, h6.get? b = some ob → h7.get? b = some ob := fun b ob w => hx7 b ob (Nat.ne_of_lt (Heap.lt_size w)) w
    have I7 := I6.kept (t' := s4.toks + 1) hk7
    have M7 := mid_enum (t := s4.toks + 1) D0 M6 ⟨_, _, he6, rfl, rfl, rfl⟩ hLe (fun b ob _ w => hk7 b ob w)
    have he7 := hk7 _ _ he6
    show wpAny _ _ (assignInOrder [assign (.Name "at" t1) X.env, assign (.Name "later" t2) X.env] [.int i s4.toks, .ref z]) _ _ _
    refine assignInOrder_cons (wpAny_assign_Name (store3 (v := iv i) (i := 5) R.cs I7 nd (ix 5 _ rfl).1 (ix 5 _ rfl).2 ⟨s4.toks, rfl⟩ fun h8 I8 sb8 => ?_))
    have M8 := mid_but (t := s4.toks + 1 + 1) (H' := H4) D0 M7 (.inl ⟨rfl, R.hst⟩) (fun b ob hb w => (sb8.2 b hb).trans w) (fun _ _ => rfl)
    refine assignInOrder_cons (wpAny_assign_Name (store3 (v := V.ref z) (i := 6) R.cs I8 nd (ix 6 _ rfl).1 (ix 6 _ rfl).2 rfl fun h9 I9 sb9 => ?_))
    have M9 := mid_but (t := s4.toks + 1 + 1 + 1) (H' := H4) D0 M8 (.inl ⟨rfl, R.hst⟩) (fun b ob hb w => (sb9.2 b hb).trans w) (fun _ _ => rfl)
    have ci : ((i + 1 : Nat) : Int) = (i : Int) + 1 := by omega
    have he9 : IsEnum h9 e a ((i + 1 : Nat) : Int) (.ref z) := by
      rw [ci]
      exact (sb9.2 e eL).trans ((sb8.2 e eL).trans he7)
    have fnw : fnd ≠ nw := fun w => hfF (by rw [w]; exact nn)
    have eb := ex_body (s1 := s1) (g := g) (cd := cd) (c0 := c0) (c1 := c1) (c2 := c2) (a3 := a3) (a5 := a5) (a6 := a6) (b0 := b0) (b1 := b1) (b2 := b2) (E := fun _ _ => False) R (by have := hr.un; omega) hN D0 hLe hfF h400 hline hbase em hgk (okg k (List.mem_of_getElem? hgk)) I9
      (fun b u hb hu => k4 b u (fun w => by rw [w, nn] at hu; cases hu) (kF b u hb hu)) (k4 _ _ fnw ef) (k4 _ _ nyw ey) M9 e1 n1 (fun w => by rw [w, ef] at n2; cases n2) nn he9 hN4
    refine assignInOrder_nil (wpAny_mono eb (fun f' s9 hq => ?_) fun _ _ w => w.elim)
    cases f' with
    | next => exact hq
    | cont => exact hq
    | brk => exact hq.elim
    | ret v => exact hq.elim
  · have ei : i = gs.length := Nat.le_antisymm hi hge2
    have et : gs.take i = gs := List.take_of_length_le hge2
    rw [et] at ef
    have fin : wpAny (model X.prog X.w) X.A.in1 (callSpecial? (.ref a) "__next__") (fun _ _ => False) (fun x' s4 => StopAt x' s4 ∧ ∃ H4, Inv X pins [some (.ref p), some (.ref a0), some (.ref mt), some (.ref y), some (.ref fnd), v5, v6] H4 s4 ∧ (∀ b u, b ≠ fnd → H b = some u → H4 b = some u) ∧ H4 fnd = some (.lst (nv (exch gs o 0)))) s3 := by
      rcases hcase with ⟨i0, eH, hgs, hkk⟩ | ⟨i0, nw, M, ny, nn⟩
      · subst eH
        refine wpAny_mono (first_end R.G R.cE R.cX R.cG D0 M0 hkk hgs I3 S1 ho hm okg hlen (by omega)) (fun _ _ z => z) fun x' s4 h4 => ?_
        obtain ⟨h4, H4, I4, sm, _⟩ := h4
        exact ⟨h4, H4, I4, fun b u _ hu => sm b u hu, sm _ _ ef⟩
      · refine wpAny_mono (end_mid D0 I3 M i0 ei) (fun _ _ z => z) fun x' s4 h4 => ?_
        obtain ⟨h4, I4, _⟩ := h4
        exact ⟨h4, H3, I4, kF, ef⟩
    refine enum_py_end he3 fin fun s4 h4 => ?_
    obtain ⟨H4, I4, kF4, ef4⟩ := h4
    exact wpAny_execs_nil ⟨_, H4, I4, q H4 _ v5 v6 kF4 ef4⟩
end
end K76
namespace K76
open PySem PySem.Spec PyProof.Rows L2 GenW
/-- a scope of plain locals -/
theorem noCells_by {sc : Scope} (h : (sc.names.all fun y => decide (y.2 ≠ .cell) && decide (y.2 ≠ .free)) = true) : NoCells sc := by
  intro y hy
  have q := List.all_eq_true.mp h y hy
  rw [Bool.and_eq_true, decide_eq_true_eq, decide_eq_true_eq] at q
  exact q
theorem locals_by {sc : Scope} {N : List Str} (h : (N.all fun x => decide (sc.names.lookup x = some NameKind.local)) = true) : ∀ x ∈ N, sc.names.lookup x = some .local := fun x hx => of_decide_eq_true (List.all_eq_true.mp h x hx)
theorem fr_head {qual : Str} {scope : Scope} {L : Addr} {f : Addr} {cd : Value} {outer : List Env} : (envOfC qual scope L f cd).locals ∈ frs (envOfC qual scope L f cd :: outer) := by
  unfold frs
  rw [List.filterMap_cons]
  exact List.mem_cons_self
section
variable {P : Program} {w : World} {K : PySem.W.Frag} {mg : Str → Option Value} {base : Heap} {C : Addr}
/-- the order that the play leaves, a new list -/
def spPlay (K : PySem.W.Frag) (C : Addr) : Sp := fun vs H Q _ => ∃ (p a m : Addr) (n : Nat) (gs o : List Nat), vs = [.ref p, .ref a, .ref m] ∧ Sch C H p n gs ∧ H a = some (.lst (nv o)) ∧ o.Perm (List.range n) ∧ (∀ H, SqT K H m []) ∧
  ∀ (x : Addr) (H' : Hp), Same H H' → H' x = some (.lst (nv (plays gs o))) → Q (.ref x) H'
theorem okg_of {H : Hp} {p : Addr} {n : Nat} {gs o : List Nat} (S1 : Sch C H p n gs) (hp : o.Perm (List.range n)) : (∀ x ∈ gs, 1 ≤ x ∧ x < o.length) ∧ o.length ≤ 12 := by
  obtain ⟨_, _, _, _, _, _, h⟩ := S1
  have e : o.length = n := by rw [hp.length_eq, List.length_range]
  rw [e]
  exact ⟨h.2.1, h.1.2⟩
theorem c_play (g : Gs K mg) {T0 T1 f0 f : Addr} {fd0 fd : FuncData} (FD : FunD K "play" "play" (C8.fnArgs (top 25)) (C8.fnBody (top 25)) (C8.fnScope (top 25)) [] [("missed", .ref T1)] f fd) (mgf : mg "play" = some (.ref f)) (D0 : GD K mg T0 f0 fd0)
    (cE : C8.Cal P w K mg base 1 "is_exchanged" (spBad K) []) (cX : C8.Cal P w K mg base 1 "exchange" (spSwap K) []) (cG : C8.Met P w K mg base 1 C "gates" (spGates C) []) (cN : C8.Cal P w K mg base 4 "need_play" (spNeed K C) []) :
    C8.Cal P w K mg base 5 "play" (spPlay K C) [.ref T1] := by
  obtain ⟨ds, hd, hb⟩ := FD.binds0 (ps := ["schedule", "order", "missed"]) 2 (by simp) rfl (fun D doc pm an cdv ct us ks hu hk => by
    match us, ks, hu, hk with
    | [u1, u2], [k1], _, _ => exact ⟨_, _, _, _, _, _, rfl, rfl, rfl⟩)
  refine C8.cal0 ⟨fun_of_funD FD, mgf, FD.kp⟩ hb hd (N := plN) (C8.fnScope_by (by decide +kernel)) (fun vs H Q E h => ?_) (fun cdv A outer s H vs Q E hr h => ?_)
  · obtain ⟨p, a, m, n, gs, o, rfl, _⟩ := h
    rfl
  · obtain ⟨p, a, m, n, gs, o, rfl, S1, ha, hp, hm, q⟩ := h
    have og := okg_of S1 hp
    have R : Dr (cxOf C8.CX0 P w K mg base plN "play" (C8.fnScope (top 25)) f cdv A outer s H E).nox C T0 f0 fd0 := ⟨g, cE, cX, cG, D0, env_cells (noCells_by (by decide +kernel)), fr_head, locals_by (sc := C8.fnScope (top 25)) (N := plN) (by decide +kernel)⟩
    refine ⟨_, pss_cons (ps_expr (C8.pe_c cN hr (by decide) (by rfl) (pa_cons (pv 0) (pa_cons (pv 1) (pa_cons (pv 2) pa_nil)))))
      (pss_cons (ps_set (i := 3) plN_nd rfl (Or.inl rfl) (pe_callTy call_list_of (by rfl) g.list (by decide +kernel) (pa_cons (pv 1) pa_nil)))
      (pss_cons (ps_play R (hr.mono (by decide)) (by rfl) rfl) (pss_one (ps_ret (pv 3))))), ?_⟩
    refine ⟨.ref p, rfl, .ref a, rfl, .ref m, rfl, p, a, m, n, gs, o, rfl, S1, ha, hp, hm H, fun H1 s1 => ?_⟩
    refine ⟨.ref a, rfl, a, _, rfl, .inl (SqL.of (s1.at ha)), fun l nl => ?_⟩
    have s2 := s1.upd nl (o := .lst (nv o))
    refine ⟨p, a, m, l, n, gs, o, rfl, S1.same s2, s2.at ha, upd_same, hm _, og.1, og.2, fun H' x v4 s3 ex => ?_⟩
    exact ⟨.ref x, rfl, q x H' (s2.trans (fun b u e => by
      refine s3 b u ?_
      exact e)) ex⟩
/-- the numbers of the comparisons that exchange, a new list -/
def spExchs (K : PySem.W.Frag) (C : Addr) : Sp := fun vs H Q _ => ∃ (p a m : Addr) (n : Nat) (gs o : List Nat), vs = [.ref p, .ref a, .ref m] ∧ Sch C H p n gs ∧ H a = some (.lst (nv o)) ∧ o.Perm (List.range n) ∧ (∀ H, SqT K H m []) ∧
  ∀ (x : Addr) (H' : Hp), Same H H' → H' x = some (.lst (nv (exch gs o 0))) → Q (.ref x) H'
theorem c_exchanges (g : Gs K mg) {T0 T1 f0 f : Addr} {fd0 fd : FuncData} (FD : FunD K "exchanges" "exchanges" (C8.fnArgs (top 26)) (C8.fnBody (top 26)) (C8.fnScope (top 26)) [] [("missed", .ref T1)] f fd) (mgf : mg "exchanges" = some (.ref f)) (D0 : GD K mg T0 f0 fd0)
    (cE : C8.Cal P w K mg base 1 "is_exchanged" (spBad K) []) (cX : C8.Cal P w K mg base 1 "exchange" (spSwap K) []) (cG : C8.Met P w K mg base 1 C "gates" (spGates C) []) (cN : C8.Cal P w K mg base 4 "need_play" (spNeed K C) []) :
    C8.Cal P w K mg base 5 "exchanges" (spExchs K C) [.ref T1] := by
  obtain ⟨ds, hd, hb⟩ := FD.binds0 (ps := ["schedule", "order", "missed"]) 2 (by simp) rfl (fun D doc pm an cdv ct us ks hu hk => by
    match us, ks, hu, hk with
    | [u1, u2], [k1], _, _ => exact ⟨_, _, _, _, _, _, rfl, rfl, rfl⟩)
  refine C8.cal0 ⟨fun_of_funD FD, mgf, FD.kp⟩ hb hd (N := exN) (C8.fnScope_by (by decide +kernel)) (fun vs H Q E h => ?_) (fun cdv A outer s H vs Q E hr h => ?_)
  · obtain ⟨p, a, m, n, gs, o, rfl, _⟩ := h
    rfl
  · obtain ⟨p, a, m, n, gs, o, rfl, S1, ha, hp, hm, q⟩ := h
    have og := okg_of S1 hp
    have R : Dr (cxOf C8.CX0 P w K mg base exN "exchanges" (C8.fnScope (top 26)) f cdv A outer s H E).nox C T0 f0 fd0 := ⟨g, cE, cX, cG, D0, env_cells (noCells_by (by decide +kernel)), fr_head, locals_by (sc := C8.fnScope (top 26)) (N := exN) (by decide +kernel)⟩
    refine ⟨_, pss_cons (ps_expr (C8.pe_c cN hr (by decide) (by rfl) (pa_cons (pv 0) (pa_cons (pv 1) (pa_cons (pv 2) pa_nil)))))
      (pss_cons (ps_par (i := 3) (j := 4) rfl exN_nd rfl rfl (by decide) (show (C8.fnScope (top 26)).names.lookup ("now" : Str) = some NameKind.local by decide +kernel) (show (C8.fnScope (top 26)).names.lookup ("found" : Str) = some NameKind.local by decide +kernel) (pa_cons (pe_callTy call_list_of (by rfl) g.list (by decide +kernel) (pa_cons (pv 1) pa_nil)) (pa_cons (pe_lst pa_nil) pa_nil)) (by rfl))
      (pss_cons (ps_exch R hr (by rfl) (by rfl) rfl rfl (by rfl) (by rfl) rfl) (pss_one (ps_ret (pv 4))))), ?_⟩
    refine ⟨.ref p, rfl, .ref a, rfl, .ref m, rfl, p, a, m, n, gs, o, rfl, S1, ha, hp, hm H, fun H1 s1 => ?_⟩
    refine ⟨.ref a, rfl, a, _, rfl, .inl (SqL.of (s1.at ha)), fun l nl => ⟨Nat.zero_le _, fun l2 nl2 => ⟨_, _, rfl, ?_⟩⟩⟩
    have s2 := s1.upd nl (o := .lst (nv o))
    have s3 := s2.upd nl2 (o := .lst [])
    have n1 : l ≠ l2 := ne_of_none upd_same nl2
    refine ⟨p, a, m, l, l2, n, gs, o, rfl, S1.same s3, s3.at ha, ?_, upd_same, n1, hm _, og.1, og.2, fun H' v3 v5 v6 k4 ex => ?_⟩
    · rw [upd_ne n1, upd_same]
    · refine ⟨.ref l2, rfl, q l2 H' (fun b u e => ?_) ex⟩
      have e2 := s2.at e
      refine k4 b u (ne_of_none e2 nl2) ?_
      rw [upd_ne (ne_of_none e2 nl2)]
      exact e2
end
end K76
namespace K76
open L2 PySem PySem.Spec PyProof.Rows
/-- all of the class that the walk calls -/
structure SU (P : Program) (w : World) (K : PySem.W.Frag) (mg : Str → Option Value) (base : Heap) (C : Addr) : Prop where
  S : SP P w K mg base C
  mK : C8.Mak P w K mg base 5 "Schedule" C (spInit C) []
  cC : C8.Met P w K mg base 1 C "comparisons" (spComps C) []
  cG : C8.Met P w K mg base 1 C "gates" (spGates C) []
  cJ : C8.Met P w K mg base 8 C "joined" (spJoin C) []
  og : ∃ (mc : Value) (pG gG : Addr), ClX.CRead K C mc ∧ ClX.CMet K C mc "of_gates" pG gG ∧ FnR P w K mg base C8.CX0 7 gG (spOf K C)
  ln : ∃ (f : Addr) (fd : FuncData), PySem.W.findIn K (.ref C) "__len__" = some (some (.ref f)) ∧ PySem.W.isFn K (.ref f) = true ∧ FnOk P w K mg base C8.CX0 1 f fd ["self"] (spLen C) ∧ Binds K fd ["self"] []
theorem fall_len (n : Nat) : (fall n).length = n := by
  unfold fall
  rw [List.length_reverse, List.length_range]
theorem fall_perm (n : Nat) : (fall n).Perm (List.range n) := List.reverse_perm _
theorem exch_lt : ∀ (l o : List Nat) (k x : Nat), x ∈ exch l o k → k ≤ x ∧ x < k + l.length
  | [], _, _, _, h => absurd h (by simp [exch])
  | g :: l, o, k, x, h => by
    have ih := exch_lt l (step o g) (k + 1) x
    have h' : x ∈ (if bad o g then k :: exch l (step o g) (k + 1) else exch l (step o g) (k + 1)) := h
    rw [List.length_cons]
    split at h'
    · rcases List.mem_cons.mp h' with z | z
      · omega
      · have := ih z
        omega
    · have := ih h'
      omega
/-- tuples stand while a list is written -/
theorem tps_put {H : Hp} {D : Addr} {xs : List V} {o : HO} : ∀ {ts : List Addr} {gs : List Nat}, Tps H ts gs → H D = some (.lst xs) → Tps (upd H D o) ts gs
  | _, _, .nil, _ => .nil
  | _, _, .cons h t, e => .cons (by
      rw [upd_ne (ne_of h e (by intro z; cases z))]
      exact h) (tps_put t e)
section
variable {P : Program} {w : World} {K : PySem.W.Frag} {mg : Str → Option Value} {base : Heap} {C : Addr}
/-- the falling order, a new list -/
def spFall : Sp := fun vs H Q _ => ∃ n : Nat, vs = [iv n] ∧ n ≤ 12 ∧ ∀ (x : Addr) (H' : Hp), Same H H' → H' x = some (.lst (nv (fall n))) → Q (.ref x) H'
theorem c_fall (g : Gs K mg) {f : Addr} {fd : FuncData} (D : C8.Def K mg "falling_order" (top 28) f fd) (b : Binds K fd ["places"] []) : C8.Cal P w K mg base 1 "falling_order" spFall [] := by
  refine C8.cal0 D b .nil (N := ["places"]) (C8.fnScope_by (by decide +kernel)) (fun vs H Q E h => ?_) (fun cdv A outer s H vs Q E hr h => ?_)
  · obtain ⟨n, rfl, _⟩ := h
    rfl
  · obtain ⟨n, rfl, hn, q⟩ := h
    refine ⟨_, pss_one (ps_ret (pe_revL (pe_listRg rfl (by rfl) g.list (prg_1 (by rfl) g.range (pv 0))))), ?_⟩
    refine ⟨iv n, rfl, n, rfl, RgOk.of_le (by omega) (by omega) (by omega) (by omega), fun p np => ⟨p, _, rfl, SqL.of upd_same, fun p2 np2 => ?_⟩⟩
    refine q p2 _ ((Same.new np).upd np2) ?_
    rw [upd_same, rgV_nv, nv_rev]
    rfl
/-- a Schedule of as many comparisons as exchange in the falling order -/
def spShort (C : Addr) : Sp := fun vs H Q _ => ∃ (p : Addr) (n : Nat) (gs : List Nat), vs = [.ref p] ∧ Sch C H p n gs ∧
  ∀ (x : Addr) (ks : List Nat) (H' : Hp), Same H H' → ks.length = (exch gs (fall n) 0).length → Sch C H' x n ks → Q (.ref x) H'
theorem c_shortest (g : Gs K mg) (U : SU P w K mg base C) {T1 : Addr} (hT : ∀ H, SqT K H T1 []) {f : Addr} {fd : FuncData} (D : C8.Def K mg "shortest" (top 29) f fd) (b : Binds K fd ["schedule"] [])
    (cF : C8.Cal P w K mg base 1 "falling_order" spFall []) (cE : C8.Cal P w K mg base 5 "exchanges" (spExchs K C) [.ref T1]) : C8.Cal P w K mg base 7 "shortest" (spShort C) [] := by
  refine C8.cal0 D b .nil (N := ["schedule", "rows", "done", "at"]) (C8.fnScope_by (by decide +kernel)) (fun vs H Q E h => ?_) (fun cdv A outer s H vs Q E hr h => ?_)
  · obtain ⟨p, n, gs, rfl, _⟩ := h
    rfl
  · obtain ⟨p, n, gs, rfl, S1, q⟩ := h
    have nd : (["schedule", "rows", "done", "at"] : List Str).Nodup := by decide +kernel
    obtain ⟨pp, pg, fdp, hP, FP, bP⟩ := U.S.pl
    obtain ⟨dx, r, t0, h1, h2, h3, h4⟩ := id S1
    refine ⟨_, pss_cons (ps_asg (pe_tup (pa_cons (C8.pe_mt0 U.cC hr (by decide) (pv 0)) (pa_cons (C8.pe_c cE hr (by decide) (by rfl) (pa_cons (pv 0) (pa_cons
        (C8.pe_c cF hr (by decide) (by rfl) (pa_cons (pe_prop (E := E0) (pv 0) U.S.T.cl hP FP (hr.mono (by decide)) bP .nil C8.pass0 (by rfl)) pa_nil)) pa_nil))) pa_nil)))
        (pg_tup rfl (pgs_cons (pg_name (i := 1) nd rfl (Or.inr rfl)) (pgs_cons (pg_name (i := 2) nd rfl (Or.inl rfl)) pgs_nil))))
      (pss_one (ps_ret (C8.pe_mk U.mK hr (by decide) (by rfl) (pa_cons (pe_prop (E := E0) (pv 0) U.S.T.cl hP FP (hr.mono (by decide)) bP .nil C8.pass0 (by rfl)) (pa_cons
        (pe_lc (own := [("at", 3)]) (g := gName 3) (tt := tYes) (te := tOp (rIxL K) (tVar 1) (tVar 3)) rfl nd (pi_list (pv 2)) (blkOk_by (N := ["schedule", "rows", "done", "at"]) (sc := C8.fnScope (top 29)) (by decide +kernel))
          (fun _ _ _ _ _ => pg_name (i := 3) nd rfl (Or.inl rfl)) (fun _ _ _ _ _ => pts_nil) (fun _ _ _ _ _ => pe_ix ix_list (pv 1) (pv 3) (fun _ _ => rfl))) pa_nil))))), ?_⟩
    refine ⟨.ref p, rfl, p, dx, _, rfl, h1, flds_no_comps _ _, p, n, gs, rfl, S1, fun l ts H1 nl s1 e1 t1 => ?_⟩
    refine ⟨.ref p, rfl, .ref p, rfl, p, dx, _, rfl, s1.at h1, p, n, gs, rfl, S1.same s1, n, rfl, h4.1.2, fun fo H2 s2 e2 => ?_⟩
    refine ⟨p, fo, T1, n, gs, fall n, rfl, S1.same (s1.trans s2), e2, fall_perm n, hT, fun d H3 s3 e3 => ?_⟩
    refine ⟨by show 2 ≤ sizeLine; decide, fun t nt => ?_⟩
    have s4 : Same H3 (upd H3 t (.tup [.ref l, .ref d])) := Same.new nt
    have sA := ((s1.trans s2).trans s3).trans s4
    refine ⟨t, _, rfl, SqT.of upd_same, rfl, _, _, rfl, _, _, rfl, rfl, ?_⟩
    have el := s4.at ((s2.trans s3).at e1)
    have ed := s4.at e3
    have tl := t1.len
    refine ⟨.ref p, rfl, p, dx, _, rfl, sA.at h1, p, n, gs, rfl, S1.same sA, .ref d, rfl, d, rfl, ⟨_, SqL.of ed⟩, fun D nD => lc_list (K := K) (a := d) (xs := nv (exch gs (fall n) 0))
      (fun i H5 => Same (upd H3 t (.tup [.ref l, .ref d])) H5 ∧ ∃ (us : List Addr) (ks : List Nat), H5 D = some (.lst (us.map V.ref)) ∧ Tps H5 us ks ∧ us.length = i ∧ ∀ k ∈ ks, k ∈ gs)
      ⟨Same.new nD, [], [], upd_same, .nil, rfl, fun k hk => by cases hk⟩ (fun i H5 _ hP => SqL.of (hP.1.at ed)) (fun i x H5 hx hP => ?_) (fun H5 hP => ?_)⟩
    · obtain ⟨s5, us, ks, e5, t5, l5, m5⟩ := hP
      obtain ⟨j, hj, rfl⟩ := nv_of_get hx
      have hj2 := exch_lt gs (fall n) 0 j (List.mem_of_getElem? hj)
      obtain ⟨u, hu⟩ : ∃ u, ts[j]? = some u := ⟨ts[j]'(by omega), List.getElem?_eq_getElem _⟩
      obtain ⟨k, hk, huk⟩ := t1.get hu
      have sB := ((s2.trans s3).trans s4).trans s5
      refine ⟨rfl, .ref l, rfl, iv j, rfl, l, ts.map V.ref, j, .ref u, rfl, rfl, SqL.of (s5.at el), at_of rfl (by rw [List.getElem?_map, hu]; rfl), us.map V.ref, e5, ?_, s5.put nD, us ++ [u], ks ++ [k], ?_, ?_, ?_, ?_⟩
      · have hi : i < (exch gs (fall n) 0).length := (List.getElem?_eq_some_iff.mp hj).1
        have := exch_len gs (fall n) 0
        rw [List.length_map, l5]
        exact small (k := 400) (by have := h4.2.2; omega)
      · rw [upd_same, List.map_append]
        rfl
      · refine Tps.app ?_ ?_
        · rw [upd_ne (ne_of (sB.at huk) e5 (by intro z; cases z))]
          exact sB.at huk
        · exact tps_put t5 e5
      · rw [List.length_append, l5]
        rfl
      · intro y hy
        rcases List.mem_append.mp hy with z | z
        · exact m5 y z
        · have ez := List.mem_singleton.mp z
          rw [ez]
          exact List.mem_of_getElem? hk
    · obtain ⟨s5, us, ks, e5, t5, l5, m5⟩ := hP
      have lk := t5.len
      rw [nv_len] at l5
      have := exch_len gs (fall n) 0
      have ok : okG n ks := ⟨h4.1, fun y hy => h4.2.1 y (m5 y hy), by have := h4.2.2; omega⟩
      intro x dx' nx nex ne
      have sN : Same H5 (upd (upd H5 dx' (.own x)) x (.ins C dx' [])) := (Same.new nex).put nx
      refine ⟨x, dx', D, n, us, ks, rfl, upd_same, sN.at e5, t5.same sN, ok, fun rr H6 nr e1 e3 kk => ⟨rfl, ?_⟩⟩
      obtain ⟨s6, S6⟩ := sch_made nx nex t5 ok e1 e3 kk
      exact q x ks H6 ((sA.trans s5).trans s6) (by omega) S6
end
end K76
namespace K76
open L2 PySem PySem.Spec PyProof.Rows
section
variable {P : Program} {w : World} {K : PySem.W.Frag} {mg : Str → Option Value} {base : Heap} {C : Addr}
/-- a Schedule with further gates behind -/
def spExt (K : PySem.W.Frag) (C : Addr) : Sp := fun vs H Q _ => ∃ (p a : Addr) (n : Nat) (gs ks : List Nat), vs = [.ref p, .ref a] ∧ Sch C H p n gs ∧ SqL K H a (nv ks) ∧ (∀ k ∈ ks, 1 ≤ k ∧ k < n) ∧ gs.length + ks.length ≤ 400 ∧
  ∀ (x : Addr) (H' : Hp), Same H H' → Sch C H' x n (gs ++ ks) → Q (.ref x) H'
theorem c_extended (g : Gs K mg) (U : SU P w K mg base C) {f : Addr} {fd : FuncData} (D : C8.Def K mg "extended" (top 30) f fd) (b : Binds K fd ["schedule", "gates"] []) : C8.Cal P w K mg base 9 "extended" (spExt K C) [] := by
  refine C8.cal0 D b .nil (N := ["schedule", "gates"]) (C8.fnScope_by (by decide +kernel)) (fun vs H Q E h => ?_) (fun cdv A outer s H vs Q E hr h => ?_)
  · obtain ⟨p, a, n, gs, ks, rfl, _⟩ := h
    rfl
  · obtain ⟨p, a, n, gs, ks, rfl, S1, ha, hk, hl, q⟩ := h
    obtain ⟨pp, pg, fdp, hP, FP, bP⟩ := U.S.pl
    obtain ⟨mc, pG, gG, cr, cm, FG⟩ := U.og
    obtain ⟨dx, r, t0, h1, h2, h3, h4⟩ := id S1
    refine ⟨_, pss_one (ps_ret (C8.pe_mt U.cJ hr (by decide) (pv 0) (pa_cons (ClX.pe_cmeth (E := E0) (pe_glob (v := .ref C) (by rfl) U.S.T.mgC rfl) cr cm FG (hr.mono (by decide)) C8.pass0
      (pa_cons (pe_prop (E := E0) (pv 0) U.S.T.cl hP FP (hr.mono (by decide)) bP .nil C8.pass0 (by rfl)) (pa_cons (pv 1) pa_nil))) pa_nil))), ?_⟩
    refine ⟨.ref p, rfl, p, dx, _, rfl, h1, flds_no_joined _ _, rfl, .ref p, rfl, p, dx, _, rfl, h1, p, n, gs, rfl, S1, .ref a, rfl, a, n, ks, rfl, ha, ⟨h4.1, hk, by omega⟩, fun x H1 s1 S2 => ?_⟩
    exact ⟨p, x, n, gs, ks, rfl, S1.same s1, S2, hl, fun y H2 s2 S3 => q y H2 (s1.trans s2) S3⟩
/-- the gates that sort an order, a new list -/
def spSort (K : PySem.W.Frag) : Sp := fun vs H Q _ => ∃ (a : Addr) (o : List Nat), vs = [.ref a] ∧ H a = some (.lst (nv o)) ∧ 1 ≤ o.length ∧ o.length ≤ 12 ∧ ∀ (x : Addr) (H' : Hp), Same H H' → H' x = some (.lst (nv (sorting o))) → Q (.ref x) H'
theorem sorting_foldl (o : List Nat) (i : Nat) : (List.range (i + 1)).foldl (fun p i => sink o (i + 1) p) (o, []) = sink o (i + 1) ((List.range i).foldl (fun p i => sink o (i + 1) p) (o, ([] : List Nat))) := by
  rw [List.range_succ]; rw [List.foldl_append]
  rfl
theorem c_sorting (g : Gs K mg) {f : Addr} {fd : FuncData} (D : C8.Def K mg "sorting_gates" (top 31) f fd) (b : Binds K fd ["order"] []) (cE : C8.Cal P w K mg base 1 "is_exchanged" (spBad K) []) (cX : C8.Cal P w K mg base 1 "exchange" (spSwap K) []) :
    C8.Cal P w K mg base 2 "sorting_gates" (spSort K) [] := by
  refine C8.cal0 D b .nil (N := ["order", "now", "found", "last", "gate"]) (C8.fnScope_by (by decide +kernel)) (fun vs H Q E h => ?_) (fun cdv A outer s H vs Q E hr h => ?_)
  · obtain ⟨a, o, rfl, _⟩ := h
    rfl
  · obtain ⟨a, o, rfl, ha, l1, l2, q⟩ := h
    have nd : (["order", "now", "found", "last", "gate"] : List Str).Nodup := by decide +kernel
    refine ⟨_, pss_cons (ps_par (i := 1) (j := 2) rfl nd rfl rfl (by decide) (show (C8.fnScope (top 31)).names.lookup ("now" : Str) = some NameKind.local by decide +kernel) (show (C8.fnScope (top 31)).names.lookup ("found" : Str) = some NameKind.local by decide +kernel)
        (pa_cons (pe_callTy call_list_of (by rfl) g.list (by decide +kernel) (pa_cons (pv 0) pa_nil)) (pa_cons (pe_lst pa_nil) pa_nil)) (by rfl))
      (pss_cons (ps_for PassesOwn.never rfl (pi_range2 (by rfl) g.range (pa_cons pe_int (pa_cons (pe_callB call_len_seq (by rfl) g.len PySem.boot_len (pa_cons (pv 1) pa_nil)) pa_nil))) (pg_name (i := 3) nd rfl (Or.inl rfl))
        (pss_one (ps_for PassesOwn.never rfl (pi_range3 (by rfl) g.range (pa_cons (pv 3) (pa_cons pe_int (pa_cons (pe_un un_neg pe_int) pa_nil)))) (pg_name (i := 4) nd rfl (Or.inl rfl))
          (pss_one (ps_if (pt_val (C8.pe_c cE hr (by decide) (by rfl) (pa_cons (pv 1) (pa_cons (pv 4) pa_nil))))
            (pss_cons (ps_expr (C8.pe_c cX hr (by decide) (by rfl) (pa_cons (pv 1) (pa_cons (pv 4) pa_nil)))) (pss_one (ps_expr (pe_bm F.plainAttrs_list F.slot_list_append (by rfl) mt_append (pv 2) (pa_cons (pv 4) pa_nil))))) pss_nil)))))
      (pss_one (ps_ret (pv 2)))), ?_⟩
    refine ⟨.ref a, rfl, a, _, rfl, .inl (SqL.of ha), fun nw nn => ⟨Nat.zero_le _, fun fd nf => ⟨_, _, rfl, ?_⟩⟩⟩
    have s1 : Same H (upd (upd H nw (.lst (nv o))) fd (.lst [])) := (Same.new nn).upd nf
    have nf0 : H fd = none := (Same.new nn).free nf
    have nwf : nw ≠ fd := ne_of_none upd_same nf
    have e0 : (upd (upd H nw (.lst (nv o))) fd (.lst [])) nw = some (.lst (nv o)) := by
      rw [upd_ne nwf, upd_same]
    have en : ((1 : Int) + ((o.length - 1 : Nat) : Int)) = (o.length : Int) := by omega
    refine ⟨.ref nw, rfl, nw, nv o, rfl, .inl (SqL.of e0), 1, ((nv o).length : Nat), rfl, ⟨by omega, by omega, by omega, by rw [nv_len]; omega⟩, ?_⟩
    rw [nv_len, show ((o.length : Int) - 1).toNat = o.length - 1 by omega]
    refine for_range (lo := 1) (n := o.length - 1) (fun i σ H2 => ∃ v3 v4, σ = [some (.ref a), some (.ref nw), some (.ref fd), v3, v4] ∧ Same H H2 ∧ (∃ p : List Nat × List Nat, p = (List.range i).foldl (fun p i => sink o (i + 1) p) (o, []) ∧ p.1.length = o.length ∧ p.2.length ≤ 12 * i ∧
      H2 nw = some (.lst (nv p.1)) ∧ H2 fd = some (.lst (nv p.2)))) ⟨none, none, rfl, s1, _, rfl, rfl, Nat.zero_le _, e0, upd_same⟩ (fun i σ H2 hi hP => ?_) (fun σ H2 hP => ?_)
    · obtain ⟨v3, v4, eσ, s2, p, ep, lp1, lp2, en1, ef1⟩ := hP
      subst eσ
      have hil : i + 1 < o.length := by omega
      have rg := RgC.neg (i := 1 + (i : Nat)) (j := 0) (by omega) (by omega) (by omega) (by omega)
      rw [show ((1 + ((i : Nat) : Int)) - 0).toNat = i + 1 by omega] at rg
      refine ⟨.int (1 + (i : Nat)), rfl, 1, rfl, 1 + (i : Nat), 0, -1, i + 1, rfl, rg, ?_⟩
      refine for_rangeC (lo := 1 + (i : Nat)) (c := -1) (n := i + 1) (fun j σ H3 => ∃ (v4 : Option V) (r : List Nat × List Nat), σ = [some (.ref a), some (.ref nw), some (.ref fd), some (.int (1 + (i : Nat))), v4] ∧ Same H H3 ∧ sink o (i + 1 - j) r = sink o (i + 1) p ∧ r.1.length = o.length ∧
        r.2.length ≤ 12 * i + j ∧ H3 nw = some (.lst (nv r.1)) ∧ H3 fd = some (.lst (nv r.2))) ⟨v4, p, rfl, s2, rfl, lp1, by omega, en1, ef1⟩ (fun j σ H3 hj hP => ?_) (fun σ H3 hP => ?_)
      · obtain ⟨v4, r, eσ, s3, er, lr1, lr2, en2, ef2⟩ := hP
        subst eσ
        obtain ⟨G, hG⟩ : ∃ G, i + 1 - j = G + 1 := ⟨i - j, by omega⟩
        have eg : (1 + ((i : Nat) : Int)) + ((j : Nat) : Int) * (-1) = ((G + 1 : Nat) : Int) := by omega
        have hG2 : i + 1 - (j + 1) = G := by omega
        rw [hG] at er
        rw [eg]
        have nwN : ∀ b u, H b = some u → b ≠ nw := fun b u e => ne_of_none e nn
        have fdN : ∀ b u, H b = some u → b ≠ fd := fun b u e => ne_of_none e nf0
        refine ⟨.ref nw, rfl, iv (G + 1), rfl, nw, r.1, G + 1, rfl, en2, by omega, by omega, _, rfl, ?_⟩
        cases hb : bad r.1 (G + 1) with
        | true =>
          have er' : sink o G (swp r.1 (G + 1), r.2 ++ [G + 1]) = sink o (i + 1) p := by
            rw [← er]
            show _ = sink o G (if bad r.1 (G + 1) then (swp r.1 (G + 1), r.2 ++ [G + 1]) else r)
            rw [hb, if_pos rfl]
          refine iteT ⟨.ref nw, rfl, iv (G + 1), rfl, nw, r.1, G + 1, rfl, en2, by omega, by omega, fun H4 f1 f2 f3 => ?_⟩
          have ef4 := f2 fd _ nwf.symm ef2
          refine ⟨.ref fd, rfl, .inl ⟨rfl, _, SqL.of ef4⟩, iv (G + 1), rfl, fd, _, iv (G + 1), rfl, rfl, ef4, ?_, some (iv (G + 1)), (swp r.1 (G + 1), r.2 ++ [G + 1]), rfl, fun b u e => ?_, ?_, ?_, ?_, ?_, ?_⟩
          · rw [nv_len]
            exact small (k := 400) (by omega)
          · rw [upd_ne (fdN b u e)]
            exact f2 b u (nwN b u e) (s3 b u e)
          · rw [hG2]
            exact er'
          · show (swp r.1 (G + 1)).length = _
            rw [swp_len]
            exact lr1
          · show (r.2 ++ [G + 1]).length ≤ _
            rw [List.length_append]; rw [List.length_singleton]
            omega
          · rw [upd_ne nwf]
            exact f1
          · rw [upd_same, nv_app]
            rfl
        | false =>
          have er' : sink o G r = sink o (i + 1) p := by
            rw [← er]
            show _ = sink o G (if bad r.1 (G + 1) then (swp r.1 (G + 1), r.2 ++ [G + 1]) else r)
            rw [hb]
            rw [if_neg (show ¬ (false = true) from Bool.false_ne_true)]
          exact iteF ⟨some (iv (G + 1)), r, rfl, s3, by rw [hG2]; exact er', lr1, by omega, en2, ef2⟩
      · obtain ⟨v4, r, eσ, s3, er, lr1, lr2, en2, ef2⟩ := hP
        rw [Nat.sub_self] at er
        have er' : r = sink o (i + 1) p := er
        refine ⟨some (.int (1 + (i : Nat))), v4, eσ, s3, r, ?_, lr1, by omega, en2, ef2⟩
        rw [sorting_foldl, er', ep]
    · obtain ⟨v3, v4, eσ, s2, p, ep, lp1, lp2, en1, ef1⟩ := hP
      subst eσ
      refine ⟨.ref fd, rfl, q fd H2 s2 ?_⟩
      rw [ef1, ep]
      rfl
end
end K76
namespace K76
open L2 PySem PySem.Spec PyProof.Rows
theorem ifT {c : Bool} {A B : Prop} (hc : c = true) (h : A) : if c = true then A else B := by
  rw [if_pos hc]
  exact h
theorem ifF {c : Bool} {A B : Prop} (hc : c = false) (h : B) : if c = true then A else B := by
  rw [hc]
  exact iteF h
theorem cut_from {xs : List V} {d : Nat} : cutV xs (some (d : Int)) none = xs.drop d := by
  unfold cutV
  rw [HT.sIx_nat, HT.sIx_none]
  rcases Nat.le_total d xs.length with h | h
  · rw [Nat.min_eq_left h, List.take_of_length_le (by rw [List.length_drop]; omega)]
  · rw [Nat.min_eq_right h, List.drop_length, List.drop_eq_nil_of_le h, List.take_nil]
theorem nv_drop (l : List Nat) (d : Nat) : (nv l).drop d = nv (l.drop d) := (List.map_drop ..).symm
theorem sink_ok {o : List Nat} {n : Nat} : ∀ (g : Nat) (p : List Nat × List Nat), (∀ k ∈ p.2, 1 ≤ k ∧ k < n) → g < n → (∀ k ∈ (sink o g p).2, 1 ≤ k ∧ k < n) ∧ (sink o g p).2.length ≤ p.2.length + g
  | 0, p, h, _ => ⟨h, Nat.le_refl _⟩
  | g + 1, p, h, hg => by
    have e : sink o (g + 1) p = sink o g (if bad p.1 (g + 1) then (swp p.1 (g + 1), p.2 ++ [g + 1]) else p) := rfl
    rw [e]
    cases bad p.1 (g + 1) with
    | true =>
      rw [if_pos rfl]
      have q := sink_ok (o := o) g (swp p.1 (g + 1), p.2 ++ [g + 1]) (fun k hk => by
        rcases List.mem_append.mp hk with z | z
        · exact h k z
        · have ez := List.mem_singleton.mp z
          rw [ez]
          omega) (by omega)
      refine ⟨q.1, ?_⟩
      have q2 : _ ≤ (p.2 ++ [g + 1]).length + g := q.2
      rw [List.length_append, List.length_singleton] at q2
      omega
    | false =>
      rw [if_neg (show ¬ (false = true) from Bool.false_ne_true)]
      have q := sink_ok (o := o) g p h (by omega)
      exact ⟨q.1, by have := q.2; omega⟩
theorem sorting_ok {o : List Nat} {n : Nat} (hl : o.length = n) (hn : n ≤ 12) : (∀ k ∈ sorting o, 1 ≤ k ∧ k < n) ∧ (sorting o).length ≤ 144 := by
  have key : ∀ i, i ≤ n - 1 → (∀ k ∈ ((List.range i).foldl (fun p i => sink o (i + 1) p) (o, ([] : List Nat))).2, 1 ≤ k ∧ k < n) ∧ ((List.range i).foldl (fun p i => sink o (i + 1) p) (o, ([] : List Nat))).2.length ≤ 12 * i := by
    intro i
    induction i with
    | zero => exact fun _ => ⟨(fun k hk => by cases hk), Nat.le_refl _⟩
    | succ i ih =>
      intro hi
      obtain ⟨h1, h2⟩ := ih (by omega)
      rw [sorting_foldl]
      have q := sink_ok (o := o) (i + 1) _ h1 (by omega)
      exact ⟨q.1, by have := q.2; omega⟩
  unfold sorting
  rw [hl]
  have q := key (n - 1) (Nat.le_refl _)
  exact ⟨q.1, by have := q.2; omega⟩
section
variable {P : Program} {w : World} {K : PySem.W.Frag} {mg : Str → Option Value} {base : Heap} {C : Addr}
/-- a Schedule that sorts the order -/
def spCompl (C : Addr) : Sp := fun vs H Q _ => ∃ (p a : Addr) (n : Nat) (gs o : List Nat), vs = [.ref p, .ref a] ∧ Sch C H p n gs ∧ H a = some (.lst (nv o)) ∧ o.Perm (List.range n) ∧ gs.length ≤ 200 ∧
  ∀ (x : Addr) (H' : Hp), Same H H' → Sch C H' x n (gs ++ sorting (plays gs o)) → Q (.ref x) H'
theorem c_completed {T1 : Addr} (hT : ∀ H, SqT K H T1 []) {f : Addr} {fd : FuncData} (D : C8.Def K mg "completed" (top 32) f fd) (b : Binds K fd ["schedule", "order"] []) (cX : C8.Cal P w K mg base 9 "extended" (spExt K C) [])
    (cS : C8.Cal P w K mg base 2 "sorting_gates" (spSort K) []) (cP : C8.Cal P w K mg base 5 "play" (spPlay K C) [.ref T1]) : C8.Cal P w K mg base 10 "completed" (spCompl C) [] := by
  refine C8.cal0 D b .nil (N := ["schedule", "order"]) (C8.fnScope_by (by decide +kernel)) (fun vs H Q E h => ?_) (fun cdv A outer s H vs Q E hr h => ?_)
  · obtain ⟨p, a, n, gs, o, rfl, _⟩ := h
    rfl
  · obtain ⟨p, a, n, gs, o, rfl, S1, ha, hp, hl, q⟩ := h
    obtain ⟨dx, r, t0, h1, h2, h3, h4⟩ := id S1
    have lo : o.length = n := by rw [hp.length_eq, List.length_range]
    have so := sorting_ok (o := plays gs o) (by rw [plays_len]; exact lo) h4.1.2
    refine ⟨_, pss_one (ps_ret (C8.pe_c cX hr (by decide) (by rfl) (pa_cons (pv 0) (pa_cons (C8.pe_c cS hr (by decide) (by rfl) (pa_cons (C8.pe_c cP hr (by decide) (by rfl) (pa_cons (pv 0) (pa_cons (pv 1) pa_nil))) pa_nil)) pa_nil)))), ?_⟩
    refine ⟨.ref p, rfl, .ref p, rfl, .ref a, rfl, p, a, T1, n, gs, o, rfl, S1, ha, hp, hT, fun x H1 s1 e1 => ?_⟩
    refine ⟨x, plays gs o, rfl, e1, by rw [plays_len, lo]; exact h4.1.1, by rw [plays_len, lo]; exact h4.1.2, fun y H2 s2 e2 => ?_⟩
    exact ⟨p, y, n, gs, _, rfl, S1.same (s1.trans s2), SqL.of e2, so.1, by have := so.2; omega, fun z H3 s3 S3 => q z H3 ((s1.trans s2).trans s3) S3⟩
/-- .. every order -/
def spCompA (C : Addr) : Sp := fun vs H Q _ => ∃ (p : Addr) (n : Nat) (gs : List Nat), vs = [.ref p] ∧ Sch C H p n gs ∧ gs.length ≤ 200 ∧
  ∀ (x : Addr) (H' : Hp), Same H H' → Sch C H' x n (gs ++ sorting (plays gs (fall n))) → Q (.ref x) H'
theorem c_completedA (U : SU P w K mg base C) {f : Addr} {fd : FuncData} (D : C8.Def K mg "completed_for_all" (top 33) f fd) (b : Binds K fd ["schedule"] []) (cC : C8.Cal P w K mg base 10 "completed" (spCompl C) []) (cF : C8.Cal P w K mg base 1 "falling_order" spFall []) :
    C8.Cal P w K mg base 11 "completed_for_all" (spCompA C) [] := by
  refine C8.cal0 D b .nil (N := ["schedule"]) (C8.fnScope_by (by decide +kernel)) (fun vs H Q E h => ?_) (fun cdv A outer s H vs Q E hr h => ?_)
  · obtain ⟨p, n, gs, rfl, _⟩ := h
    rfl
  · obtain ⟨p, n, gs, rfl, S1, hl, q⟩ := h
    obtain ⟨pp, pg, fdp, hP, FP, bP⟩ := U.S.pl
    obtain ⟨dx, r, t0, h1, h2, h3, h4⟩ := id S1
    refine ⟨_, pss_one (ps_ret (C8.pe_c cC hr (by decide) (by rfl) (pa_cons (pv 0) (pa_cons (C8.pe_c cF hr (by decide) (by rfl) (pa_cons (pe_prop (E := E0) (pv 0) U.S.T.cl hP FP (hr.mono (by decide)) bP .nil C8.pass0 (by rfl)) pa_nil)) pa_nil)))), ?_⟩
    refine ⟨.ref p, rfl, .ref p, rfl, p, dx, _, rfl, h1, p, n, gs, rfl, S1, n, rfl, h4.1.2, fun x H1 s1 e1 => ?_⟩
    exact ⟨p, x, n, gs, fall n, rfl, S1.same s1, e1, fall_perm n, hl, fun y H2 s2 S2 => q y H2 (s1.trans s2) S2⟩
/-- the gates of the loop behind j turns -/
def riseTo (hd : List Nat) (t s j : Nat) : List Nat := ((List.range s).reverse.take j).flatMap fun i => List.range' (atN hd i + 1) (t + i - atN hd i)
theorem rise_next {hd : List Nat} {t s j : Nat} (hj : j < s) : riseTo hd t s (j + 1) = riseTo hd t s j ++ List.range' (atN hd (s - 1 - j) + 1) (t + (s - 1 - j) - atN hd (s - 1 - j)) := by
  unfold riseTo
  have e : (List.range s).reverse[j]? = some (s - 1 - j) := by
    rw [List.getElem?_reverse (by rw [List.length_range]; exact hj), List.length_range, List.getElem?_range (by omega)]
  rw [List.take_add_one, e, List.flatMap_append]
  simp
theorem rise_all {hd : List Nat} {t s : Nat} : riseTo hd t s s = (List.range s).reverse.flatMap fun i => List.range' (atN hd i + 1) (t + i - atN hd i) := by
  unfold riseTo
  rw [List.take_of_length_le (by rw [List.length_reverse, List.length_range]; exact Nat.le_refl _)]
theorem rise_len {hd : List Nat} {t s : Nat} (ht : t ≤ 12) (hs : s ≤ 12) : ∀ j, j ≤ s → (riseTo hd t s j).length ≤ 23 * j
  | 0, _ => Nat.zero_le _
  | j + 1, h => by
    have ih := rise_len (hd := hd) ht hs j (by omega)
    rw [rise_next (by omega), List.length_append, List.length_range']
    omega
theorem rise_ok {hd : List Nat} {t s n : Nat} (h : t + s ≤ n) : ∀ x ∈ riseTo hd t s s, 1 ≤ x ∧ x < n := by
  intro x hx
  rw [rise_all] at hx
  obtain ⟨i, hi, hx2⟩ := List.mem_flatMap.mp hx
  have hi2 : i < s := List.mem_range.mp (List.mem_reverse.mp hi)
  obtain ⟨m, hm, rfl⟩ := List.mem_range'.mp hx2
  omega
/-- raised: nothing, or a Schedule with the gates that raise -/
def spRaise (K : PySem.W.Frag) (C : Addr) : Sp := fun vs H Q _ => ∃ (p : Addr) (n k t s : Nat) (gs : List Nat), vs = [.ref p, iv k, iv t, iv s] ∧ Sch C H p n gs ∧ gs.length ≤ 100 ∧ k ≤ n ∧ t ≤ n ∧ s ≤ n ∧ (hinds n k (plays gs (fall n))).length = k ∧
  ((k < s ∨ n - t < s) → ∀ H', Same H H' → Q .non H') ∧ ((s ≤ k ∧ s ≤ n - t) → ∀ (x : Addr) (H' : Hp), Same H H' → Sch C H' x n (gs ++ raising n k t s (plays gs (fall n))) → Q (.ref x) H')
theorem c_raised (g : Gs K mg) (U : SU P w K mg base C) {T1 : Addr} (hT : ∀ H, SqT K H T1 []) {f : Addr} {fd : FuncData} (D : C8.Def K mg "raised" (top 34) f fd) (b : Binds K fd ["schedule", "k", "t", "s"] []) (cX : C8.Cal P w K mg base 9 "extended" (spExt K C) [])
    (cF : C8.Cal P w K mg base 1 "falling_order" spFall []) (cP : C8.Cal P w K mg base 5 "play" (spPlay K C) [.ref T1]) : C8.Cal P w K mg base 10 "raised" (spRaise K C) [] := by
  refine C8.cal0 D b .nil (N := ["schedule", "k", "t", "s", "places", "last", "hind", "found", "index", "place", "rank"]) (C8.fnScope_by (by decide +kernel)) (fun vs H Q E h => ?_) (fun cdv A outer s0 H vs Q E hr h => ?_)
  · obtain ⟨p, n, k, t, s, gs, rfl, _⟩ := h
    rfl
  · obtain ⟨p, n, k, t, s, gs, rfl, S1, hl, hk, ht, hs, hh, q0, q1⟩ := h
    have nd : (["schedule", "k", "t", "s", "places", "last", "hind", "found", "index", "place", "rank"] : List Str).Nodup := by decide +kernel
    obtain ⟨pp, pg, fdp, hP, FP, bP⟩ := U.S.pl
    obtain ⟨dx, r, t0, h1, h2, h3, h4⟩ := id S1
    refine ⟨_, pss_cons (ps_set (i := 4) nd rfl (Or.inr rfl) (pe_prop (E := E0) (pv 0) U.S.T.cl hP FP (hr.mono (by decide)) bP .nil C8.pass0 (by rfl)))
      (pss_cons (ps_if (PW.pt (pw_or (pt_cmpR op_gt (pv 3) (pv 1) (nomark _)) (pw_or1 (pt_cmpR op_gt (pv 3) (pe_op op_sub (pv 4) (pv 2)) (nomark _))))) (pss_one (ps_ret pe_non)) pss_nil)
      (pss_cons (ps_set (i := 5) nd rfl (Or.inl rfl) (C8.pe_c cP hr (by decide) (by rfl) (pa_cons (pv 0) (pa_cons (C8.pe_c cF hr (by decide) (by rfl) (pa_cons (pv 4) pa_nil)) pa_nil))))
      (pss_cons (ps_set (i := 6) nd rfl (Or.inl rfl) (pe_slice sl_list
        (pe_lc (own := [("place", 9), ("rank", 10)]) (g := gTup K 2 (gCons (gName 9) (gCons (gName 10) gNil))) rfl nd (pi_enum (by rfl) g.enum (pa_cons (pv 5) pa_nil)) (blkOk_by (N := ["schedule", "k", "t", "s", "places", "last", "hind", "found", "index", "place", "rank"]) (sc := C8.fnScope (top 34)) (by decide +kernel))
          (fun _ _ _ _ _ => pg_tup rfl (pgs_cons (pg_name (i := 9) nd rfl (Or.inl rfl)) (pgs_cons (pg_name (i := 10) nd rfl (Or.inl rfl)) pgs_nil))) (fun _ _ _ _ _ => pts_one (pt_cmpR op_ge (pv 10) (pe_op op_sub (pv 4) (pv 1)) (nomark _))) (fun _ _ _ _ _ => pv 9))
        (po_some (pe_op op_sub (pv 1) (pv 3))) po_none))
      (pss_cons (ps_set (i := 7) nd rfl (Or.inl rfl) (pe_lst pa_nil))
      (pss_cons (ps_for PassesOwn.never rfl (pi_range3 (by rfl) g.range (pa_cons (pe_op op_sub (pv 3) pe_int) (pa_cons (pe_un un_neg pe_int) (pa_cons (pe_un un_neg pe_int) pa_nil)))) (pg_name (i := 8) nd rfl (Or.inl rfl))
        (pss_one (ps_expr (pe_bm F.plainAttrs_list F.slot_list_extend (by rfl) mt_extend (pv 7) (pa_cons (pe_listRg rfl (by rfl) g.list (prg_2 (by rfl) g.range (pe_op op_add (pe_ix ix_list (pv 6) (pv 8) (fun _ _ => rfl)) pe_int) (pe_op op_add (pe_op op_add (pv 2) (pv 8)) pe_int))) pa_nil)))))
      (pss_one (ps_ret (C8.pe_c cX hr (by decide) (by rfl) (pa_cons (pv 0) (pa_cons (pv 7) pa_nil)))))))))), ?_⟩
    refine ⟨.ref p, rfl, p, dx, _, rfl, h1, p, n, gs, rfl, S1, ?_⟩
    refine ⟨iv s, rfl, iv k, rfl, s, k, rfl, rfl, decide ((k : Int) < (s : Int)), rfl, ?_⟩
    by_cases hks : k < s
    · exact ifT (decide_eq_true (by omega)) (iteT (q0 (.inl hks) H (Same.refl H)))
    refine ifF (decide_eq_false (by omega)) ⟨iv s, rfl, iv n, rfl, iv t, rfl, n, t, rfl, rfl, s, (n : Int) - (t : Int), rfl, rfl, decide ((n : Int) - (t : Int) < (s : Int)), rfl, ?_⟩
    by_cases hns : n - t < s
    · exact ifT (decide_eq_true (by omega)) (q0 (.inr hns) H (Same.refl H))
    refine ifF (decide_eq_false (by omega)) ?_
    have lf : (plays gs (fall n)).length = n := by rw [plays_len, fall_len]
    refine ⟨.ref p, rfl, iv n, rfl, n, rfl, h4.1.2, fun fo H1 s1 e1 => ⟨p, fo, T1, n, gs, fall n, rfl, S1.same s1, e1, fall_perm n, hT, fun la H2 s2 e2 => ?_⟩⟩
    generalize hlast : plays gs (fall n) = last at hh q1 lf e2
    have s12 := s1.trans s2
    have n12 : n ≤ 12 := h4.1.2
    refine ⟨.ref la, rfl, la, _, rfl, SqL.of e2, fun D nD => lc_it (walk_enum (K := K) (a := la) (xs := nv last)) (fun i H3 => Same H2 H3 ∧ H3 D = some (.lst (nv ((List.range i).filter fun p => decide (n - k ≤ atN last p)))))
      ⟨Same.new nD, upd_same⟩ (fun i H3 _ hP => SqL.of (hP.1.at e2)) (fun i x H3 H3' hi hP y => ?_) (fun H3 hP => ?_)⟩
    · obtain ⟨s3, e3⟩ := hP
      obtain ⟨u, x1, x2, rfl, nT, rfl, f1, f2⟩ := y
      cases (Option.some.inj f1)
      obtain ⟨r, hr2, rfl⟩ := nv_of_get f2
      have er : atN last i = r := by
        unfold atN
        rw [List.getD_eq_getElem?_getD, hr2]
        rfl
      have s4 := s3.upd nT (o := .tup [.int (i : Nat), iv r])
      have e4 : (upd H3 u (.tup [.int (i : Nat), iv r])) D = some (.lst (nv ((List.range i).filter fun p => decide (n - k ≤ atN last p)))) := (Same.new nT).at e3
      have hi2 : i < last.length := (List.getElem?_eq_some_iff.mp hr2).1
      refine ⟨u, _, rfl, .inl (.inl upd_same), rfl, _, _, rfl, _, _, rfl, rfl, rfl, iv r, rfl, iv n, rfl, iv k, rfl, n, k, rfl, rfl, r, (n : Int) - (k : Int), rfl, rfl, decide ((n : Int) - (k : Int) ≤ (r : Int)), rfl, ?_⟩
      by_cases hc : n - k ≤ r
      · refine ifT (decide_eq_true (by omega)) ⟨iv i, rfl, _, e4, ?_, s4.put nD, ?_⟩
        · rw [nv_len]
          refine small (k := 400) ?_
          have := List.length_filter_le (fun p => decide (n - k ≤ atN last p)) (List.range i)
          rw [List.length_range] at this
          omega
        · rw [upd_same, List.range_succ, List.filter_append, nv_app]
          have : ([i] : List Nat).filter (fun p => decide (n - k ≤ atN last p)) = [i] := by
            rw [List.filter_cons, if_pos (decide_eq_true (by rw [er]; exact hc))]
            rfl
          rw [this]
          rfl
      · refine ifF (decide_eq_false (by omega)) ⟨s4, ?_⟩
        rw [e4, List.range_succ, List.filter_append]
        have : ([i] : List Nat).filter (fun p => decide (n - k ≤ atN last p)) = [] := by
          rw [List.filter_cons, if_neg (by rw [decide_eq_false (by rw [er]; exact hc)]; exact Bool.false_ne_true)]
          rfl
        rw [this, List.append_nil]
    · obtain ⟨s3, e3⟩ := hP
      rw [nv_len] at e3
      have ek : (k : Int) - (s : Int) = ((k - s : Nat) : Int) := by omega
      refine ⟨iv k, rfl, iv s, rfl, k, s, rfl, rfl, (k : Int) - (s : Int), rfl, D, _, rfl, SqL.of e3, fun hd nhd => ?_⟩
      rw [ek, cut_from, nv_drop]
      have ehl : (List.range last.length).filter (fun p => decide (n - k ≤ atN last p)) = hinds n k last := rfl
      rw [ehl]
      generalize hhl : (hinds n k last).drop (k - s) = hl'
      have lhl : hl'.length = s := by
        rw [← hhl, List.length_drop, hh]
        omega
      have sA := (s12.trans s3).upd nhd (o := .lst (nv hl'))
      refine ⟨Nat.zero_le _, fun fd nfd => ?_⟩
      have ehd : (upd H3 hd (.lst (nv hl'))) hd = some (.lst (nv hl')) := upd_same
      generalize upd H3 hd (.lst (nv hl')) = H4 at nfd sA ehd
      have rg := RgC.neg (i := (s : Int) - 1) (j := -1) (by omega) (by omega) (by omega) (by omega)
      rw [show ((s : Int) - 1 - (-1)).toNat = s by omega] at rg
      refine ⟨iv s, rfl, s, 1, rfl, rfl, 1, rfl, 1, rfl, (s : Int) - 1, -1, -1, s, rfl, rg, ?_⟩
      refine for_rangeC (lo := (s : Int) - 1) (c := -1) (n := s) (fun j σ H5 => ∃ v8, σ = [some (.ref p), some (iv k), some (iv t), some (iv s), some (iv n), some (.ref la), some (.ref hd), some (.ref fd), v8, none, none] ∧ Same H4 H5 ∧ H5 fd = some (.lst (nv (riseTo hl' t s j))))
        ⟨none, rfl, Same.new nfd, upd_same⟩ (fun j σ H5 hj hP => ?_) (fun σ H5 hP => ?_)
      · obtain ⟨v8, eσ, s5, e5⟩ := hP
        subst eσ
        have ei : ((s : Int) - 1) + ((j : Nat) : Int) * (-1) = ((s - 1 - j : Nat) : Int) := by omega
        rw [ei]
        have rl := rise_len (hd := hl') (t := t) (s := s) (by omega) (by omega) j (by omega)
        have hx : atN hl' (s - 1 - j) < n := by
          have hm : hl'[s - 1 - j]? = some (atN hl' (s - 1 - j)) := by
            unfold atN
            rw [List.getD_eq_getElem?_getD, List.getElem?_eq_getElem (by omega)]
            rfl
          have hm2 := List.mem_of_getElem? hm
          rw [← hhl] at hm2
          have hm3 : _ ∈ (List.range last.length).filter fun p => decide (n - k ≤ atN last p) := List.mem_of_mem_drop hm2
          have hm4 := List.mem_range.mp (List.mem_filter.mp hm3).1
          rw [hhl] at hm4
          omega
        refine ⟨.ref fd, rfl, .inl ⟨rfl, _, SqL.of e5⟩, .ref hd, rfl, iv (s - 1 - j), rfl, hd, nv hl', _, _, rfl, rfl, SqL.of (s5.at ehd), at_nv rfl (by omega), (atN hl' (s - 1 - j) : Nat), 1, rfl, rfl, iv t, rfl, iv (s - 1 - j), rfl, t, (s - 1 - j : Nat), rfl, rfl, (t : Int) + ((s - 1 - j : Nat) : Int), 1, rfl, rfl,
          _, _, rfl, rfl, RgOk.of_le (by omega) (by omega) (by omega) (by omega), fun q nq => ?_⟩
        have nq2 : fd ≠ q := ne_of_none e5 nq
        have ea : ((atN hl' (s - 1 - j) : Nat) : Int) + 1 = ((atN hl' (s - 1 - j) + 1 : Nat) : Int) := by omega
        have eb : ((t : Int) + ((s - 1 - j : Nat) : Int)) + 1 = ((t + (s - 1 - j) + 1 : Nat) : Int) := by omega
        rw [ea, eb, rgV_from]
        have s6 := s5.upd nq (o := .lst (nv (List.range' (atN hl' (s - 1 - j) + 1) (t + (s - 1 - j) + 1 - (atN hl' (s - 1 - j) + 1)))))
        refine ⟨fd, q, _, _, rfl, rfl, (Same.new nq).at e5, upd_same, ?_, some (iv (s - 1 - j)), rfl, s6.put nfd, ?_⟩
        · rw [nv_len, nv_len, List.length_range']
          exact small' (k := 1000) (by omega)
        · rw [upd_same, rise_next hj, nv_app, show t + (s - 1 - j) + 1 - (atN hl' (s - 1 - j) + 1) = t + (s - 1 - j) - atN hl' (s - 1 - j) by omega]
      · obtain ⟨v8, eσ, s5, e5⟩ := hP
        subst eσ
        have sB := sA.trans s5
        rw [rise_all] at e5
        refine ⟨.ref p, rfl, .ref fd, rfl, p, fd, n, gs, _, rfl, S1.same sB, SqL.of e5, ?_, ?_, fun x H6 s6 S6 => q1 ⟨by omega, by omega⟩ x H6 (sB.trans s6) ?_⟩
        · rw [← rise_all]
          exact rise_ok (by omega)
        · rw [← rise_all]
          have := rise_len (hd := hl') (t := t) (s := s) (by omega) (by omega) s (Nat.le_refl _)
          omega
        · unfold raising
          rw [hhl]
          exact S6
end
end K76
namespace K76
open L2 PySem PySem.Spec PyProof.Rows
/-! ### the law's bag -/
def Bag (H : Hp) (b c : Addr) : Prop := ∃ (x0 x1 x2 : Int) (cs : List Int), H b = some (.lst [.int x0, .int x1, .int x2, .ref c]) ∧ H c = some (.lst (cs.map V.int)) ∧ 0 ≤ x0 ∧ (0 ≤ x1 ∧ x1 < 2147483647) ∧ 0 ≤ x2 ∧ (∀ z ∈ cs, 0 ≤ z) ∧ cs.length ≤ 63
theorem Bag.same {H H1 : Hp} {b c : Addr} (s : Same H H1) : Bag H b c → Bag H1 b c := fun ⟨x0, x1, x2, cs, h1, h2, h⟩ => ⟨x0, x1, x2, cs, s.at h1, s.at h2, h⟩
section
variable {P : Program} {w : World} {K : PySem.W.Frag} {mg : Str → Option Value} {base : Heap} {C : Addr}
def spBag (K : PySem.W.Frag) : Sp := fun vs H Q _ => ∃ (a : Addr) (ns : List Int), vs = [.ref a] ∧ SqL K H a (ns.map V.int) ∧ ns.length ≤ 63 ∧ ∀ (b c : Addr) (H' : Hp), Same H H' → Bag H' b c → H b = none → Q (.ref b) H'
theorem c_bag (g : Gs K mg) {f : Addr} {fd : FuncData} (D : C8.Def K mg "_law_bag" (top 36) f fd) (b : Binds K fd ["_law_script"] []) : C8.Cal P w K mg base 1 "_law_bag" (spBag K) [] := by
  refine C8.cal0 D b .nil (N := ["_law_script", "_law_cell"]) (C8.fnScope_by (by decide +kernel)) (fun vs H Q E h => ?_) (fun cdv A outer s H vs Q E hr h => ?_)
  · obtain ⟨a, ns, rfl, _⟩ := h
    rfl
  · obtain ⟨a, ns, rfl, ha, hl, q⟩ := h
    have nd : (["_law_script", "_law_cell"] : List Str).Nodup := by decide +kernel
    refine ⟨_, pss_one (ps_ret (pe_lst (pa_cons pe_int (pa_cons pe_int (pa_cons pe_int (pa_cons
      (pe_lc (own := [("_law_cell", 1)]) (g := gName 1) (tt := tYes) rfl nd (pi_list (pe_slice sl_list (pv 0) po_none (po_some pe_int))) (blkOk_by (N := ["_law_script", "_law_cell"]) (sc := C8.fnScope (top 36)) (by decide +kernel))
        (fun _ _ _ _ _ => pg_name (i := 1) nd rfl (Or.inl rfl)) (fun _ _ _ _ _ => pts_nil) (fun _ _ _ _ _ => pe_callB call_abs (by rfl) g.abs (by decide +kernel) (pa_cons (pv 1) pa_nil))) pa_nil)))))), ?_⟩
    refine ⟨.ref a, rfl, 63, rfl, a, _, rfl, ha, fun l nl => ?_⟩
    have hc : cutV (ns.map V.int) none (some 63) = (ns.take 63).map V.int := by
      unfold cutV
      rw [HT.sIx_none, show (some (63 : Int)) = some ((63 : Nat) : Int) from rfl, HT.sIx_nat, List.length_map, List.map_take]
      show List.take (min 63 ns.length - 0) (List.drop 0 _) = _
      rw [List.drop_zero, Nat.sub_zero, List.take_eq_take_iff]
      rw [List.length_map]
      omega
    rw [hc, List.take_of_length_le hl]
    refine ⟨l, rfl, ⟨_, SqL.of upd_same⟩, fun D nD => lc_list (K := K) (a := l) (xs := ns.map V.int) (fun i H2 => Same (upd H l (.lst (ns.map V.int))) H2 ∧ H2 D = some (.lst (((ns.take i).map fun z => if z < 0 then -z else z).map V.int)))
      ⟨Same.new nD, upd_same⟩ (fun i H2 _ hP => SqL.of (hP.1.at upd_same)) (fun i x H2 hx hP => ?_) (fun H2 hP => ?_)⟩
    · obtain ⟨s2, e2⟩ := hP
      rw [List.getElem?_map] at hx
      cases hz : ns[i]? with
      | none =>
        rw [hz] at hx
        cases hx
      | some z =>
        rw [hz] at hx
        cases hx
        have hi : i < ns.length := (List.getElem?_eq_some_iff.mp hz).1
        refine ⟨rfl, .int z, rfl, z, rfl, _, e2, ?_, s2.put nD, ?_⟩
        · rw [List.length_map, List.length_map, List.length_take]
          exact small (k := 400) (by omega)
        · rw [upd_same, List.take_add_one, hz, List.map_append, List.map_append]
          rfl
    · obtain ⟨s2, e2⟩ := hP
      rw [List.length_map, List.take_length] at e2
      refine ⟨by show 4 ≤ sizeLine; decide, fun b nb => ?_⟩
      have sA : Same H (upd H2 b (.lst [.int 0, .int 1234567891, .int 0, .ref D])) := ((Same.new nl).trans s2).upd nb
      refine q b D _ sA ⟨0, 1234567891, 0, ns.map fun z => if z < 0 then -z else z, upd_same, ?_, by omega, by omega, by omega, fun z hz => ?_, by rw [List.length_map]; exact hl⟩ (((Same.new nl).trans s2).free nb)
      · rw [upd_ne (ne_of_none e2 nb)]
        exact e2
      · obtain ⟨y, hy, rfl⟩ := List.mem_map.mp hz
        split <;> omega
/-- all but b stands -/
def But (b : Addr) (H H' : Hp) : Prop := ∀ c u, c ≠ b → H c = some u → H' c = some u
theorem But.refl {b : Addr} {H : Hp} : But b H H := fun _ _ _ z => z
theorem But.trans {b : Addr} {H H1 H2 : Hp} (x : But b H H1) (y : But b H1 H2) : But b H H2 := fun c u hc z => y c u hc (x c u hc z)
theorem But.set {b : Addr} {H H1 : Hp} {o : HO} (x : But b H H1) : But b H (upd H1 b o) := fun c u hc z => by
  rw [upd_ne hc]
  exact x c u hc z
theorem _root_.L2.Same.but {b : Addr} {H H1 : Hp} (x : Same H H1) : But b H H1 := fun c u _ z => x c u z
/-- a number below many; the bag goes on -/
def spTake : Sp := fun vs H Q _ => ∃ (b c : Addr) (m : Int), vs = [.ref b, .int m] ∧ Bag H b c ∧ 1 ≤ m ∧ m ≤ 1000 ∧ ∀ (v : Nat) (H' : Hp), (v : Int) < m → Bag H' b c → But b H H' → Q (iv v) H'
theorem _root_.L2.PS.imp {X : Cx} {st : Stmt} {t t' : TS} (h : PS X st t) (hi : ∀ D σ H, t' D σ H → t D σ H) : PS X st t' := ⟨fun pins s σ H D I q => h.run pins s σ H D I (hi D σ H q)⟩
/-- the bag as it stands at b -/
def BagX (H : Hp) (b c : Addr) (x0 x1 x2 : Int) (cs : List Int) : Prop := H b = some (.lst [.int x0, .int x1, .int x2, .ref c]) ∧ H c = some (.lst (cs.map V.int)) ∧ 0 ≤ x0 ∧ (0 ≤ x1 ∧ x1 < 2147483647) ∧ 0 ≤ x2 ∧ (∀ z ∈ cs, 0 ≤ z) ∧ cs.length ≤ 63
theorem BagX.bag {H : Hp} {b c : Addr} {x0 x1 x2 : Int} {cs : List Int} (h : BagX H b c x0 x1 x2 cs) : Bag H b c := ⟨x0, x1, x2, cs, h⟩
theorem BagX.ne {H : Hp} {b c : Addr} {x0 x1 x2 : Int} {cs : List Int} (h : BagX H b c x0 x1 x2 cs) : c ≠ b := fun z => by
  obtain ⟨h1, h2, _⟩ := h
  rw [z, h1] at h2
  injection h2 with h2
  injection h2 with h2
  have q : ([.int x0, .int x1, .int x2, .ref c] : List V)[3]? = (cs.map V.int)[3]? := by rw [h2]
  rw [List.getElem?_map] at q
  cases e : cs[3]? with
  | none =>
    rw [e] at q
    cases q
  | some y =>
    rw [e] at q
    cases q
theorem BagX.put {H : Hp} {b c : Addr} {x0 x1 x2 y0 y1 y2 : Int} {cs : List Int} (h : BagX H b c x0 x1 x2 cs) (h0 : 0 ≤ y0) (h1 : 0 ≤ y1 ∧ y1 < 2147483647) (h2 : 0 ≤ y2) : BagX (upd H b (.lst [.int y0, .int y1, .int y2, .ref c])) b c y0 y1 y2 cs :=
  ⟨upd_same, by rw [upd_ne h.ne]; exact h.2.1, h0, h1, h2, h.2.2.2.2.2⟩
def tkN : List Str := ["_law_bag_here", "_law_many", "_law_cell", "_law_value", "_law_first", "_law_second"]
/-- the next number of the script is drawn in -/
def tDrawIn : TS := fun D σ H => ∃ (b c : Addr) (m x0 x1 x2 : Int) (cs : List Int), σ = [some (.ref b), some (.int m), none, none, none, none] ∧ BagX H b c x0 x1 x2 cs ∧
  ∀ (y0 y1 y2 : Int) (v2 : Option V) (H' : Hp), BagX H' b c y0 y1 y2 cs → But b H H' → D.nx [some (.ref b), some (.int m), v2, none, none, none] H'
def tCellIn : TS := fun D σ H => ∃ (b c : Addr) (m x0 x1 x2 : Int) (cs : List Int), σ = [some (.ref b), some (.int m), some (.int 0), none, none, none] ∧ BagX H b c x0 x1 x2 cs ∧
  ∀ z : Int, 0 ≤ z → D.nx [some (.ref b), some (.int m), some (.int z), none, none, none] H
def tBigIn : TS := fun D σ H => ∃ (b c : Addr) (m x0 x1 x2 z : Int) (cs : List Int), σ = [some (.ref b), some (.int m), some (.int z), none, none, none] ∧ BagX H b c x0 x1 x2 cs ∧ 0 ≤ z ∧
  ∀ (y0 : Int) (H' : Hp), BagX H' b c y0 x1 x2 cs → But b H H' → D.nx [some (.ref b), some (.int m), some (.int z), none, none, none] H'
theorem c_take (g : Gs K mg) {f : Addr} {fd : FuncData} (D : C8.Def K mg "_law_take" (top 37) f fd) (b : Binds K fd ["_law_bag_here", "_law_many"] []) : C8.Cal P w K mg base 1 "_law_take" spTake [] := by
  refine C8.cal0 D b .nil (N := tkN) (C8.fnScope_by (by decide +kernel)) (fun vs H Q E h => ?_) (fun cdv A outer s H vs Q E hr h => ?_)
  · obtain ⟨b, c, m, rfl, _⟩ := h
    rfl
  · obtain ⟨b, c, m, rfl, ⟨x0, x1, x2, cs, hB⟩, m1, m2, q⟩ := h
    have nd : tkN.Nodup := by decide +kernel
    refine ⟨_, pss_cons (PS.imp (t' := tDrawIn) (ps_if (pt_cmpR op_eq (pe_ix ix_list (pv 0) pe_int (fun _ _ => rfl)) pe_int (nomark _))
        (pss_cons (ps_set (i := 2) nd rfl (Or.inl rfl) pe_int)
        (pss_cons (PS.imp (t' := tCellIn) (ps_if (pt_cmpR op_lt (pe_ix ix_list (pv 0) pe_int (fun _ _ => rfl)) (pe_callB call_len_seq (by rfl) g.len PySem.boot_len (pa_cons (pe_ix ix_list (pv 0) pe_int (fun _ _ => rfl)) pa_nil)) (nomark _))
          (pss_one (ps_set (i := 2) nd rfl (Or.inl rfl) (pe_ix ix_list (pe_ix ix_list (pv 0) pe_int (fun _ _ => rfl)) (pe_ix ix_list (pv 0) pe_int (fun _ _ => rfl)) (fun _ _ => rfl)))) pss_nil) ?cell)
        (pss_cons (ps_augS (pv 0) pe_int pget_list pe_int ip_add set_list)
        (pss_cons (PS.imp (t' := tBigIn) (ps_if (pt_cmpR op_ge (pv 2) pe_int (nomark _)) (pss_one (ps_asg (pv 2) (pg_sub (pv 0) pe_int set_list))) pss_nil) ?big)
        (pss_one (ps_asg (pe_op op_mod (pe_op op_add (pe_op op_add (pe_op op_mul (pe_ix ix_list (pv 0) pe_int (fun _ _ => rfl)) pe_int) (pe_op op_mod (pv 2) pe_int)) (pe_op op_mul pe_int (pe_ix ix_list (pv 0) pe_int (fun _ _ => rfl)))) pe_int)
          (pg_sub (pv 0) pe_int set_list))))))) pss_nil) ?drw)
      (pss_cons (ps_if (pt_cmpR op_gt (pe_ix ix_list (pv 0) pe_int (fun _ _ => rfl)) pe_int (nomark _))
        (pss_cons (ps_set (i := 3) nd rfl (Or.inl rfl) (pe_op op_mod (pe_ix ix_list (pv 0) pe_int (fun _ _ => rfl)) (pv 1)))
        (pss_cons (ps_asg (pe_op op_fdiv (pe_ix ix_list (pv 0) pe_int (fun _ _ => rfl)) (pv 1)) (pg_sub (pv 0) pe_int set_list))
        (pss_one (ps_ret (pv 3))))) pss_nil)
      (pss_cons (ps_set (i := 4) nd rfl (Or.inl rfl) (pe_op op_mod (pe_op op_mul (pe_op op_add (pe_ix ix_list (pv 0) pe_int (fun _ _ => rfl)) pe_int) pe_int) pe_int))
      (pss_cons (ps_set (i := 5) nd rfl (Or.inl rfl) (pe_op op_mod (pe_op op_mul (pe_op op_mod (pe_op op_mul (pv 4) (pv 4)) pe_int) pe_int) pe_int))
      (pss_cons (ps_if (pt_cmpR op_gt (pv 1) pe_int (nomark _)) pss_never pss_nil)
      (pss_one (ps_ret (pe_op op_mod (pe_op op_fdiv (pv 5) pe_int) (pv 1)))))))), ?_⟩
    case cell =>
      intro D σ H h
      obtain ⟨b, c, m, x0, x1, x2, cs, rfl, hB, q⟩ := h
      obtain ⟨hb, hc, h0, h1, h2, hz, hl⟩ := hB
      refine ⟨.ref b, rfl, b, _, _, _, rfl, rfl, SqL.of hb, rfl, .ref b, rfl, b, _, _, _, rfl, rfl, SqL.of hb, rfl, c, _, rfl, .inl (SqL.of hc), x2, _, rfl, rfl, decide (x2 < ((cs.map V.int).length : Nat)), rfl, ?_⟩
      rw [List.length_map]
      by_cases hx : x2 < (cs.length : Int)
      · obtain ⟨z, hz1⟩ : ∃ z, cs[x2.toNat]? = some z := ⟨cs[x2.toNat]'(by omega), List.getElem?_eq_getElem _⟩
        refine ifT (decide_eq_true hx) ⟨.ref b, rfl, b, _, _, _, rfl, rfl, SqL.of hb, rfl, .ref b, rfl, b, _, _, _, rfl, rfl, SqL.of hb, rfl, c, _, x2, .int z, rfl, rfl, SqL.of hc, at_of (j := x2.toNat) (by omega) (by rw [List.getElem?_map, hz1]; rfl), q z (hz z (List.mem_of_getElem? hz1))⟩
      · exact ifF (decide_eq_false hx) (q 0 (Int.le_refl 0))
    case big =>
      intro D σ H h
      obtain ⟨b, c, m, x0, x1, x2, z, cs, rfl, hB, hz, q⟩ := h
      refine ⟨.int z, rfl, z, 1000000000000000000, rfl, rfl, decide ((1000000000000000000 : Int) ≤ z), rfl, ?_⟩
      by_cases hx : (1000000000000000000 : Int) ≤ z
      · refine ifT (decide_eq_true hx) ⟨.int z, rfl, .ref b, rfl, b, _, 0, 0, rfl, rfl, hB.1, rfl, q z _ (hB.put hz hB.2.2.2.1 hB.2.2.2.2.1) But.refl.set⟩
      · exact ifF (decide_eq_false hx) (q x0 H hB But.refl)
    case drw =>
      intro D σ H h
      obtain ⟨b, c, m, x0, x1, x2, cs, rfl, hB, q⟩ := h
      refine ⟨.ref b, rfl, b, _, _, _, rfl, rfl, SqL.of hB.1, rfl, rfl, decide (V.int x0 = V.int 0), rfl, ?_⟩
      by_cases hx : V.int x0 = V.int 0
      · refine ifT (decide_eq_true hx) ⟨b, c, m, x0, x1, x2, cs, rfl, hB, fun z hz => ?_⟩
        refine ⟨.ref b, rfl, b, _, 2, .int x2, rfl, rfl, SqL.of hB.1, rfl, (by show 4 ≤ 1000; decide), x2, 1, rfl, rfl, b, _, 2, 2, rfl, rfl, hB.1, rfl, ?_⟩
        have hB2 := hB.put hB.2.2.1 hB.2.2.2.1 (show 0 ≤ x2 + 1 by have := hB.2.2.2.2.1; omega)
        refine ⟨b, c, m, x0, x1, x2 + 1, z, cs, rfl, hB2, hz, fun y0 H1 hB3 bt => ?_⟩
        refine ⟨.ref b, rfl, b, _, 1, .int x1, rfl, rfl, SqL.of hB3.1, rfl, x1, 48271, rfl, rfl, .inr ⟨by decide, by decide⟩, .int z, rfl, z, 2147483647, rfl, rfl, (by show (0 : Int) < _; decide), _, _, rfl, rfl, .ref b, rfl, b, _, 2, .int (x2 + 1), rfl, rfl, SqL.of hB3.1, rfl,
          7919, x2 + 1, rfl, rfl, .inl ⟨by decide, by decide⟩, _, _, rfl, rfl, _, 2147483647, rfl, rfl, (by show (0 : Int) < _; decide), .ref b, rfl, b, _, 1, 1, rfl, rfl, hB3.1, rfl, ?_⟩
        have hB4 := hB3.put hB3.2.2.1 (y1 := (x1 * 48271 + z % 2147483647 + 7919 * (x2 + 1)) % 2147483647) ⟨Int.emod_nonneg _ (by decide), Int.emod_lt_of_pos _ (by decide)⟩ hB3.2.2.2.2.1
        exact q y0 _ (x2 + 1) (some (.int z)) _ hB4 ((But.refl.set.trans bt).set)
      · exact ifF (decide_eq_false hx) (q x0 x1 x2 none H hB But.refl)
    refine ⟨b, c, m, x0, x1, x2, cs, rfl, hB, fun y0 y1 y2 v2 H1 hB1 bt => ?_⟩
    refine ⟨.ref b, rfl, b, _, 0, .int y0, rfl, rfl, SqL.of hB1.1, rfl, y0, 0, rfl, rfl, decide (0 < y0), rfl, ?_⟩
    by_cases hx : 0 < y0
    · refine ifT (decide_eq_true hx) ⟨.ref b, rfl, b, _, 0, .int y0, rfl, rfl, SqL.of hB1.1, rfl, .int m, rfl, y0, m, rfl, rfl, by omega, ?_⟩
      refine ⟨.ref b, rfl, b, _, 0, .int y0, rfl, rfl, SqL.of hB1.1, rfl, .int m, rfl, y0, m, rfl, rfl, ⟨by omega, by omega⟩, .ref b, rfl, b, _, 0, 0, rfl, rfl, hB1.1, rfl, .int (y0 % m), rfl, ?_⟩
      have e1 : 0 ≤ y0 % m := Int.emod_nonneg _ (by omega)
      have e2 : y0 % m < m := Int.emod_lt_of_pos _ (by omega)
      have hB2 := hB1.put (y0 := y0 / m) (Int.ediv_nonneg (by omega) (by omega)) hB1.2.2.2.1 hB1.2.2.2.2.1
      have r := q (y0 % m).toNat _ (by omega) hB2.bag bt.set
      have ev : iv (y0 % m).toNat = .int (y0 % m) := by
        unfold iv
        rw [Int.toNat_of_nonneg e1]
      rw [ev] at r
      exact r
    · refine ifF (decide_eq_false hx) ?_
      refine ⟨.ref b, rfl, b, _, 1, .int y1, rfl, rfl, SqL.of hB1.1, rfl, y1, 1, rfl, rfl, y1 + 1, 39373, rfl, rfl, .inr ⟨by decide, by decide⟩, _, 1000000007, rfl, rfl, (by show (0 : Int) < _; decide), ?_⟩
      have f1 : 0 ≤ (y1 + 1) * 39373 % 1000000007 := Int.emod_nonneg _ (by decide)
      have f2 : (y1 + 1) * 39373 % 1000000007 < 1000000007 := Int.emod_lt_of_pos _ (by decide)
      refine ⟨_, rfl, _, rfl, _, _, rfl, rfl, .inl ⟨Int.lt_of_lt_of_le (by decide) f1, Int.lt_trans f2 (by decide)⟩, _, 998244353, rfl, rfl, (by show (0 : Int) < _; decide), _, 30011, rfl, rfl, .inr ⟨by decide, by decide⟩, _, 998244353, rfl, rfl, (by show (0 : Int) < _; decide), ?_⟩
      refine ⟨.int m, rfl, m, 1000000, rfl, rfl, decide ((1000000 : Int) < m), rfl, ifF (decide_eq_false (by omega)) ?_⟩
      generalize hse : ((y1 + 1) * 39373 % 1000000007) * ((y1 + 1) * 39373 % 1000000007) % 998244353 * 30011 % 998244353 = se
      refine ⟨.int se, by rw [← hse]; rfl, se, 7, rfl, rfl, ⟨by decide, by decide⟩, .int m, rfl, se / 7, m, rfl, rfl, (show 0 < m by omega), ?_⟩
      have e1 : 0 ≤ se / 7 % m := Int.emod_nonneg _ (by omega)
      have e2 : se / 7 % m < m := Int.emod_lt_of_pos _ (by omega)
      have r := q (se / 7 % m).toNat _ (by omega) hB1.bag bt
      have ev : iv (se / 7 % m).toNat = .int (se / 7 % m) := by
        unfold iv
        rw [Int.toNat_of_nonneg e1]
      rw [ev] at r
      exact r
end
end K76
namespace K76
open L2 PySem PySem.Spec PyProof.Rows
section
variable {P : Program} {w : World} {K : PySem.W.Frag} {mg : Str → Option Value} {base : Heap} {C : Addr}
def spSorted : Sp := fun vs H Q _ => ∃ n : Nat, vs = [iv n] ∧ n ≤ 12 ∧ ∀ (x : Addr) (H' : Hp), Same H H' → H x = none → H' x = some (.lst (nv (List.range n))) → Q (.ref x) H'
theorem c_sorted (g : Gs K mg) {f : Addr} {fd : FuncData} (D : C8.Def K mg "_law_sorted" (top 42) f fd) (b : Binds K fd ["_law_places"] []) : C8.Cal P w K mg base 1 "_law_sorted" spSorted [] := by
  refine C8.cal0 D b .nil (N := ["_law_places"]) (C8.fnScope_by (by decide +kernel)) (fun vs H Q E h => ?_) (fun cdv A outer s H vs Q E hr h => ?_)
  · obtain ⟨n, rfl, _⟩ := h
    rfl
  · obtain ⟨n, rfl, hn, q⟩ := h
    refine ⟨_, pss_one (ps_ret (pe_listRg rfl (by rfl) g.list (prg_1 (by rfl) g.range (pv 0)))), ?_⟩
    refine ⟨iv n, rfl, n, rfl, RgOk.of_le (by omega) (by omega) (by omega) (by omega), fun p np => q p _ (Same.new np) np ?_⟩
    rw [upd_same, rgV_nv]
/-- the law's own play -/
def spLPlay (K : PySem.W.Frag) : Sp := fun vs H Q _ => ∃ (a c e : Addr) (gs o : List Nat), vs = [.ref a, .ref c, .ref e] ∧ SqL K H a (nv gs) ∧ SqL K H c (nv o) ∧ SqL K H e [] ∧ (∀ x ∈ gs, 1 ≤ x ∧ x < o.length) ∧
  ∀ (x : Addr) (H' : Hp), Same H H' → H x = none → H' x = some (.lst (nv (plays gs o))) → Q (.ref x) H'
def lpN : List Str := ["_law_gates_here", "_law_order_here", "_law_gone", "_law_now", "_law_at", "_law_gate"]
theorem c_lplay (g : Gs K mg) {f : Addr} {fd : FuncData} (D : C8.Def K mg "_law_play" (top 40) f fd) (b : Binds K fd ["_law_gates_here", "_law_order_here", "_law_gone"] []) : C8.Cal P w K mg base 1 "_law_play" (spLPlay K) [] := by
  refine C8.cal0 D b .nil (N := lpN) (C8.fnScope_by (by decide +kernel)) (fun vs H Q E h => ?_) (fun cdv A outer s H vs Q E hr h => ?_)
  · obtain ⟨a, c, e, gs, o, rfl, _⟩ := h
    rfl
  · obtain ⟨a, c, e, gs, o, rfl, ha, hc, he, hg, q⟩ := h
    have nd : lpN.Nodup := by decide +kernel
    refine ⟨_, pss_cons (ps_set (i := 3) nd rfl (Or.inl rfl) (pe_callTy call_list_of (by rfl) g.list (by decide +kernel) (pa_cons (pv 1) pa_nil)))
      (pss_cons (ps_for PassesOwn.never rfl (pi_enum (by rfl) g.enum (pa_cons (pv 0) pa_nil)) (pg_tup rfl (pgs_cons (pg_name (i := 4) nd rfl (Or.inl rfl)) (pgs_cons (pg_name (i := 5) nd rfl (Or.inl rfl)) pgs_nil)))
        (pss_one (ps_if (PW.pt (pw_and (pt_cmpR op_notIn_seq (pv 4) (pv 2) (by with_unfolding_all rfl)) (pw_and1 (pt_cmpR op_gt (pe_ix ix_list (pv 3) (pe_op op_sub (pv 5) pe_int) (fun _ _ => rfl)) (pe_ix ix_list (pv 3) (pv 5) (fun _ _ => rfl)) (nomark _)))))
          (pss_one (ps_asg (pe_tup (pa_cons (pe_ix ix_list (pv 3) (pv 5) (fun _ _ => rfl)) (pa_cons (pe_ix ix_list (pv 3) (pe_op op_sub (pv 5) pe_int) (fun _ _ => rfl)) pa_nil)))
            (pg_tup rfl (pgs_cons (pg_sub (pv 3) (pe_op op_sub (pv 5) pe_int) set_list) (pgs_cons (pg_sub (pv 3) (pv 5) set_list) pgs_nil))))) pss_nil)))
      (pss_one (ps_ret (pv 3)))), ?_⟩
    refine ⟨.ref c, rfl, c, _, rfl, .inl hc, fun nw nn => ?_⟩
    have s1 : Same H (upd H nw (.lst (nv o))) := Same.new nn
    refine ⟨.ref a, rfl, a, nv gs, rfl, s1.seq ha, for_it (walk_enum (K := K) (a := a) (xs := nv gs)) (fun i σ H2 => ∃ v4 v5, σ = [some (.ref a), some (.ref c), some (.ref e), some (.ref nw), v4, v5] ∧ Same H H2 ∧ H2 nw = some (.lst (nv (plays (gs.take i) o))))
      ⟨none, none, rfl, s1, upd_same⟩ (fun i σ H2 _ hP => ?_) (fun i x σ H2 H3 hi hP y => ?_) (fun σ H2 hP => ?_)⟩
    · obtain ⟨_, _, _, s2, _⟩ := hP
      exact s2.seq ha
    · obtain ⟨v4, v5, eσ, s2, e2⟩ := hP
      subst eσ
      obtain ⟨t, x1, x2, rfl, nT, rfl, e4, e5⟩ := y
      cases (Option.some.inj e4)
      obtain ⟨G, hG, rfl⟩ := nv_of_get e5
      have hg2 := hg G (List.mem_of_getElem? hG)
      have s3 := s2.upd nT (o := .tup [.int (i : Nat), iv G])
      have e3 : (upd H2 t (.tup [.int (i : Nat), iv G])) nw = some (.lst (nv (plays (gs.take i) o))) := (Same.new nT).at e2
      have lp := plays_len (gs.take i) o
      refine ⟨t, _, rfl, .inl (.inl upd_same), rfl, _, _, rfl, _, _, rfl, rfl, ?_⟩
      refine ⟨iv i, rfl, .ref e, rfl, e, [], rfl, .inl (s3.seq he), rfl, rfl, true, rfl, iteT ?_⟩
      refine ⟨.ref nw, rfl, iv G, rfl, G, 1, rfl, rfl, nw, _, _, _, rfl, rfl, SqL.of e3, at_nv (j := G - 1) (by omega) (by omega), .ref nw, rfl, iv G, rfl, nw, _, _, _, rfl, rfl, SqL.of e3, at_nv (j := G) rfl (by omega), _, _, rfl, rfl, bad (plays (gs.take i) o) G, ?_, ?_⟩
      · unfold bad
        show V.bl (decide _) = V.bl (decide _)
        congr 1
        exact decide_eq_decide.mpr ⟨fun _ => by omega, fun _ => by omega⟩
      · have ep := plays_take (o := o) hG
        cases hb : bad (plays (gs.take i) o) G with
        | true =>
          have ep2 : plays (gs.take (i + 1)) o = swp (plays (gs.take i) o) G := by
            rw [ep]
            unfold step
            rw [hb, if_pos rfl]
          refine iteT ⟨.ref nw, rfl, iv G, rfl, nw, _, _, _, rfl, rfl, SqL.of e3, at_nv (j := G) rfl (by omega), .ref nw, rfl, iv G, rfl, G, 1, rfl, rfl, nw, _, _, _, rfl, rfl, SqL.of e3, at_nv (j := G - 1) (by omega) (by omega), (by show 2 ≤ sizeLine; decide), fun u nu => ?_⟩
          have s4 := s3.upd nu (o := .tup [iv (atN (plays (gs.take i) o) G), iv (atN (plays (gs.take i) o) (G - 1))])
          have e6 := (Same.new nu (o := .tup [iv (atN (plays (gs.take i) o) G), iv (atN (plays (gs.take i) o) (G - 1))])).at e3
          refine ⟨u, _, rfl, SqT.of upd_same, rfl, _, _, rfl, .ref nw, rfl, iv G, rfl, G, 1, rfl, rfl, nw, _, _, G - 1, rfl, rfl, e6, ix_nat (by omega) (by rw [nv_len]; omega), ?_⟩
          refine ⟨_, _, rfl, .ref nw, rfl, iv G, rfl, nw, _, _, G, rfl, rfl, upd_same, ix_nat rfl (by rw [List.length_set, nv_len]; omega), rfl, _, _, rfl, (s4.put nn).put nn, ?_⟩
          rw [upd_same, nv_swp, ep2]
        | false =>
          have ep2 : plays (gs.take (i + 1)) o = plays (gs.take i) o := by
            rw [ep]
            unfold step
            rw [hb]
            rw [if_neg (show ¬ (false = true) from Bool.false_ne_true)]
          refine iteF ⟨_, _, rfl, s3, ?_⟩
          rw [e3, ep2]
    · obtain ⟨v4, v5, eσ, s2, e2⟩ := hP
      subst eσ
      rw [nv_len, List.take_length] at e2
      exact ⟨.ref nw, rfl, q nw H2 s2 nn e2⟩
end
end K76
namespace K76
open L2 PySem PySem.Spec PyProof.Rows
theorem Bag.put {H : Hp} {b c d : Addr} {o : HO} (h : Bag H b c) (h1 : d ≠ b) (h2 : d ≠ c) : Bag (upd H d o) b c := by
  obtain ⟨x0, x1, x2, cs, f1, f2, f3⟩ := h
  exact ⟨x0, x1, x2, cs, by rw [upd_ne h1.symm]; exact f1, by rw [upd_ne h2.symm]; exact f2, f3⟩
theorem But.put {H H1 : Hp} {b d : Addr} {o : HO} (h : But b H H1) (hd : H d = none) : But b H (upd H1 d o) := fun c u hc e => by
  rw [upd_ne (ne_of_none e hd)]
  exact h c u hc e
section
variable {P : Program} {w : World} {K : PySem.W.Frag} {mg : Str → Option Value} {base : Heap} {C : Addr}
def spEnd (K : PySem.W.Frag) : Sp := fun vs H Q _ => ∃ (a c : Addr) (gs o : List Nat), vs = [.ref a, .ref c] ∧ SqL K H a (nv gs) ∧ SqL K H c (nv o) ∧ (∀ x ∈ gs, 1 ≤ x ∧ x < o.length) ∧
  ∀ (x : Addr) (H' : Hp), Same H H' → H x = none → H' x = some (.lst (nv (plays gs o))) → Q (.ref x) H'
theorem c_end {f : Addr} {fd : FuncData} (D : C8.Def K mg "_law_end" (top 44) f fd) (b : Binds K fd ["_law_gates_here", "_law_order_here"] []) (cP : C8.Cal P w K mg base 1 "_law_play" (spLPlay K) []) : C8.Cal P w K mg base 2 "_law_end" (spEnd K) [] := by
  refine C8.cal0 D b .nil (N := ["_law_gates_here", "_law_order_here"]) (C8.fnScope_by (by decide +kernel)) (fun vs H Q E h => ?_) (fun cdv A outer s H vs Q E hr h => ?_)
  · obtain ⟨a, c, gs, o, rfl, _⟩ := h
    rfl
  · obtain ⟨a, c, gs, o, rfl, ha, hc, hg, q⟩ := h
    refine ⟨_, pss_one (ps_ret (C8.pe_c cP hr (by decide) (by rfl) (pa_cons (pv 0) (pa_cons (pv 1) (pa_cons (pe_lst pa_nil) pa_nil))))), ?_⟩
    refine ⟨.ref a, rfl, .ref c, rfl, Nat.zero_le _, fun e ne => ?_⟩
    have s1 : Same H (upd H e (.lst [])) := Same.new ne
    exact ⟨a, c, e, gs, o, rfl, s1.seq ha, s1.seq hc, SqL.of upd_same, hg, fun x H' s2 nx ex => q x H' (s1.trans s2) (s1.free nx) ex⟩
/-- the law's gates -/
def spLGates (K : PySem.W.Frag) : Sp := fun vs H Q _ => ∃ (b c : Addr) (n : Nat), vs = [.ref b, iv n, .int 8] ∧ Bag H b c ∧ 2 ≤ n ∧ n ≤ 4 ∧
  ∀ (x : Addr) (gs : List Nat) (H' : Hp), (∀ g ∈ gs, 1 ≤ g ∧ g < n) → gs.length ≤ 8 → Bag H' b c → But b H H' → H x = none → x ≠ b → H' x = some (.lst (nv gs)) → Q (.ref x) H'
def lgN : List Str := ["_law_bag_here", "_law_places", "_law_most", "_law_way", "_law_at", "_law_found", "_law_k", "_law_gate"]
/-- an if that may set the gate anew, to a gate again -/
def tGateIf (n : Nat) : TS := fun D σ H => ∃ (b f : Addr) (w t k g : Nat), σ = [some (.ref b), some (iv n), some (.int 8), some (iv w), some (iv t), some (.ref f), some (iv k), some (iv g)] ∧ 2 ≤ n ∧ 1 ≤ g ∧ g < n ∧
  ∀ g' : Nat, 1 ≤ g' → g' < n → D.nx [some (.ref b), some (iv n), some (.int 8), some (iv w), some (iv t), some (.ref f), some (iv k), some (iv g')] H
theorem modlt {a n : Nat} (hn : 2 ≤ n) : ∃ r : Nat, ((a : Int) % ((n : Int) - 1)) = (r : Int) ∧ r < n - 1 := by
  refine ⟨a % (n - 1), ?_, Nat.mod_lt _ (by omega)⟩
  rw [show ((n : Int) - 1) = ((n - 1 : Nat) : Int) by omega]
  rfl
theorem c_lgates (g : Gs K mg) {f : Addr} {fd : FuncData} (D : C8.Def K mg "_law_gates" (top 38) f fd) (b : Binds K fd ["_law_bag_here", "_law_places", "_law_most"] []) (cT : C8.Cal P w K mg base 1 "_law_take" spTake []) :
    C8.Cal P w K mg base 2 "_law_gates" (spLGates K) [] := by
  refine C8.cal0 D b .nil (N := lgN) (C8.fnScope_by (by decide +kernel)) (fun vs H Q E h => ?_) (fun cdv A outer s H vs Q E hr h => ?_)
  · obtain ⟨b, c, n, rfl, _⟩ := h
    rfl
  · obtain ⟨b, c, n, rfl, hB, n2, n4, q⟩ := h
    have nd : lgN.Nodup := by decide +kernel
    refine ⟨_, pss_cons (ps_par (i := 3) (j := 4) rfl nd rfl rfl (by decide) (show (C8.fnScope (top 38)).names.lookup ("_law_way" : Str) = some NameKind.local by decide +kernel) (show (C8.fnScope (top 38)).names.lookup ("_law_at" : Str) = some NameKind.local by decide +kernel)
        (pa_cons (C8.pe_c cT hr (by decide) (by rfl) (pa_cons (pv 0) (pa_cons pe_int pa_nil))) (pa_cons (C8.pe_c cT hr (by decide) (by rfl) (pa_cons (pv 0) (pa_cons pe_int pa_nil))) pa_nil)) (by rfl))
      (pss_cons (ps_set (i := 5) nd rfl (Or.inl rfl) (pe_lst pa_nil))
      (pss_cons (ps_for PassesOwn.never rfl (pi_range1 (by rfl) g.range (pa_cons (pe_op op_mul (C8.pe_c cT hr (by decide) (by rfl) (pa_cons (pv 0) (pa_cons (pe_op op_add (pv 2) pe_int) pa_nil)))
            (pe_callTy call_int1 (by rfl) g.int (by decide +kernel) (pa_cons (pe_cmpR op_gt (pv 1) pe_int (nomark _)) pa_nil))) pa_nil)) (pg_name (i := 6) nd rfl (Or.inl rfl))
        (pss_cons (ps_set (i := 7) nd rfl (Or.inl rfl) (pe_op op_add pe_int (C8.pe_c cT hr (by decide) (by rfl) (pa_cons (pv 0) (pa_cons (pe_op op_sub (pv 1) pe_int) pa_nil)))))
        (pss_cons (PS.imp (t' := tGateIf n) (ps_if (pt_cmpR op_eq (pv 3) pe_int (nomark _)) (pss_one (ps_set (i := 7) nd rfl (Or.inl rfl) (pe_op op_add pe_int (pe_op op_mod (pe_op op_add (pv 4) (pv 6)) (pe_op op_sub (pv 1) pe_int))))) pss_nil) ?i1)
        (pss_cons (PS.imp (t' := tGateIf n) (ps_if (pt_cmpR op_eq (pv 3) pe_int (nomark _)) (pss_one (ps_set (i := 7) nd rfl (Or.inl rfl) (pe_op op_sub (pe_op op_sub (pv 1) pe_int) (pe_op op_mod (pe_op op_add (pv 4) (pv 6)) (pe_op op_sub (pv 1) pe_int))))) pss_nil) ?i2)
        (pss_cons (PS.imp (t' := tGateIf n) (ps_if (PW.pt (pw_and (pt_cmpR op_eq (pv 3) pe_int (nomark _)) (pw_and1 (pt_cmpR op_gt (pe_op op_mod (pv 7) pe_int) pe_int (nomark _)))))
          (pss_one (ps_set (i := 7) nd rfl (Or.inl rfl) (pe_op op_add pe_int (pe_op op_mod (pe_op op_add (pv 4) (pe_op op_mod (pv 6) pe_int)) (pe_op op_sub (pv 1) pe_int))))) pss_nil) ?i3)
        (pss_one (ps_expr (pe_bm F.plainAttrs_list F.slot_list_append (by rfl) mt_append (pv 5) (pa_cons (pv 7) pa_nil))))))))) 
      (pss_one (ps_ret (pv 5))))), ?_⟩
    case i1 =>
      intro D σ H h
      obtain ⟨b, f, w, t, k, g, rfl, n2, g1, g2, q⟩ := h
      refine ⟨iv w, rfl, rfl, decide (iv w = .int 1), rfl, ?_⟩
      by_cases hx : iv w = .int 1
      · obtain ⟨r, e, hr⟩ := modlt (a := t + k) n2
        refine ifT (decide_eq_true hx) ⟨iv t, rfl, iv k, rfl, t, k, rfl, rfl, iv n, rfl, n, 1, rfl, rfl, (t : Int) + (k : Int), (n : Int) - 1, rfl, rfl, (show 0 < (n : Int) - 1 by omega), 1, _, rfl, rfl, ?_⟩
        have e' : ((t : Int) + (k : Int)) % ((n : Int) - 1) = (r : Int) := by
          rw [← e]
          rfl
        have z := q (1 + r) (by omega) (by omega)
        show D.nx [some (.ref b), some (iv n), some (.int 8), some (iv w), some (iv t), some (.ref f), some (iv k), some (.int (1 + ((t : Int) + (k : Int)) % ((n : Int) - 1)))] H
        rw [e']
        exact z
      · exact ifF (decide_eq_false hx) (q g g1 g2)
    case i2 =>
      intro D σ H h
      obtain ⟨b, f, w, t, k, g, rfl, n2, g1, g2, q⟩ := h
      refine ⟨iv w, rfl, rfl, decide (iv w = .int 2), rfl, ?_⟩
      by_cases hx : iv w = .int 2
      · obtain ⟨r, e, hr⟩ := modlt (a := t + k) n2
        refine ifT (decide_eq_true hx) ⟨iv n, rfl, n, 1, rfl, rfl, iv t, rfl, iv k, rfl, t, k, rfl, rfl, iv n, rfl, n, 1, rfl, rfl, (t : Int) + (k : Int), (n : Int) - 1, rfl, rfl, (show 0 < (n : Int) - 1 by omega), (n : Int) - 1, _, rfl, rfl, ?_⟩
        have e' : ((t : Int) + (k : Int)) % ((n : Int) - 1) = (r : Int) := by
          rw [← e]
          rfl
        have z := q (n - 1 - r) (by omega) (by omega)
        show D.nx [some (.ref b), some (iv n), some (.int 8), some (iv w), some (iv t), some (.ref f), some (iv k), some (.int ((n : Int) - 1 - ((t : Int) + (k : Int)) % ((n : Int) - 1)))] H
        rw [e', show (n : Int) - 1 - (r : Int) = ((n - 1 - r : Nat) : Int) by omega]
        exact z
      · exact ifF (decide_eq_false hx) (q g g1 g2)
    case i3 =>
      intro D σ H h
      obtain ⟨b, f, w, t, k, g, rfl, n2, g1, g2, q⟩ := h
      refine ⟨iv w, rfl, rfl, decide (iv w = .int 3), rfl, ?_⟩
      by_cases hx : iv w = .int 3
      · refine ifT (decide_eq_true hx) ⟨iv g, rfl, g, 3, rfl, rfl, (by show (0 : Int) < _; decide), (g : Int) % 3, 0, rfl, rfl, decide (0 < (g : Int) % 3), rfl, ?_⟩
        by_cases hy : 0 < (g : Int) % 3
        · obtain ⟨r, e, hr⟩ := modlt (a := t + k % 2) n2
          refine ifT (decide_eq_true hy) ⟨iv t, rfl, iv k, rfl, k, 2, rfl, rfl, (by show (0 : Int) < _; decide), t, (k : Int) % 2, rfl, rfl, iv n, rfl, n, 1, rfl, rfl, (t : Int) + (k : Int) % 2, (n : Int) - 1, rfl, rfl, (show 0 < (n : Int) - 1 by omega), 1, _, rfl, rfl, ?_⟩
          have e' : ((t : Int) + (k : Int) % 2) % ((n : Int) - 1) = (r : Int) := by
            rw [← e]
            rfl
          have z := q (1 + r) (by omega) (by omega)
          show D.nx [some (.ref b), some (iv n), some (.int 8), some (iv w), some (iv t), some (.ref f), some (iv k), some (.int (1 + ((t : Int) + (k : Int) % 2) % ((n : Int) - 1)))] H
          rw [e']
          exact z
        · exact ifF (decide_eq_false hy) (q g g1 g2)
      · exact ifF (decide_eq_false hx) (q g g1 g2)
    refine ⟨.ref b, rfl, b, c, 4, rfl, hB, by decide, by decide, fun w0 H1 lw hB1 bt1 => ⟨.ref b, rfl, b, c, 12, rfl, hB1, by decide, by decide, fun t0 H2 lt hB2 bt2 => ⟨_, _, rfl, Nat.zero_le _, fun fd nfd => ?_⟩⟩⟩
    have bt := bt1.trans bt2
    obtain ⟨_, _, _, _, hb2, hc2, _⟩ := id hB2
    have fc : fd ≠ c := (ne_of_none hc2 nfd).symm
    have fb : fd ≠ b := (ne_of_none hb2 nfd).symm
    have nf : H fd = none := by
      cases e : H fd with
      | none => rfl
      | some u =>
        rw [bt fd u fb e] at nfd
        cases nfd
    have hBf : Bag (upd H2 fd (.lst [])) b c := hB2.same (Same.new nfd)
    have btf : But b H (upd H2 fd (.lst [])) := bt.trans (Same.new nfd).but
    refine ⟨.ref b, rfl, .int 8, rfl, 8, 1, rfl, rfl, b, c, 9, rfl, hBf, by decide, by decide, fun c0 H3 lc hB3 bt3 => ⟨iv n, rfl, n, 1, rfl, rfl, .inr ⟨_, rfl, c0, _, rfl, rfl, .inl ⟨by omega, by omega⟩, c0, ?_, by omega, by omega, ?_⟩⟩⟩
    · show [V.int ((c0 : Int) * (if decide ((1 : Int) < (n : Int)) = true then 1 else 0))] = [V.int (c0 : Int)]
      rw [if_pos (decide_eq_true (by omega)), Int.mul_one]
    rw [Int.toNat_natCast]
    refine for_range (lo := 0) (n := c0) (fun i σ H4 => ∃ (gs : List Nat) (v6 v7 : Option V), σ = [some (.ref b), some (iv n), some (.int 8), some (iv w0), some (iv t0), some (.ref fd), v6, v7] ∧ (∀ g ∈ gs, 1 ≤ g ∧ g < n) ∧ gs.length = i ∧ Bag H4 b c ∧ But b H H4 ∧ H4 fd = some (.lst (nv gs)))
      ⟨[], none, none, rfl, (fun g hg => by cases hg), rfl, hB3, btf.trans bt3, bt3 fd _ fb upd_same⟩ (fun i σ H4 hi hP => ?_) (fun σ H4 hP => ?_)
    · obtain ⟨gs, v6, v7, eσ, hg, hl, hB4, bt4, e4⟩ := hP
      subst eσ
      rw [show (0 : Int) + ((i : Nat) : Int) = (i : Int) by omega]
      refine ⟨.ref b, rfl, iv n, rfl, n, 1, rfl, rfl, b, c, (n : Int) - 1, rfl, hB4, by omega, by omega, fun v H5 lv hB5 bt5 => ⟨1, v, rfl, rfl, ?_⟩⟩
      have e5 := bt5 fd _ fb e4
      refine ⟨b, fd, w0, t0, i, 1 + v, rfl, n2, by omega, by omega, fun x1 a1 b1 => ⟨b, fd, w0, t0, i, x1, rfl, n2, a1, b1, fun x2 a2 b2 => ⟨b, fd, w0, t0, i, x2, rfl, n2, a2, b2, fun x3 a3 b3 => ?_⟩⟩⟩
      refine ⟨.ref fd, rfl, .inl ⟨rfl, _, SqL.of e5⟩, iv x3, rfl, fd, _, iv x3, rfl, rfl, e5, ?_, gs ++ [x3], some (iv i), some (iv x3), rfl, ?_, ?_, ?_, ?_, ?_⟩
      · rw [nv_len]
        exact small (k := 400) (by omega)
      · intro y hy
        rcases List.mem_append.mp hy with z | z
        · exact hg y z
        · have ez := List.mem_singleton.mp z
          rw [ez]
          exact ⟨a3, b3⟩
      · rw [List.length_append, hl]
        rfl
      · exact hB5.put fb fc
      · exact (bt4.trans bt5).put nf
      · rw [upd_same, nv_app]
        rfl
    · obtain ⟨gs, v6, v7, eσ, hg, hl, hB4, bt4, e4⟩ := hP
      subst eσ
      exact ⟨.ref fd, rfl, q fd gs H4 hg (by omega) hB4 bt4 nf fb e4⟩
end
end K76
namespace K76
open L2 PySem PySem.Spec PyProof.Rows
theorem seqIx {v n : Nat} (h : v < n) : seqIndex? (v : Int) n = some v := by
  unfold seqIndex?
  have h1 : ¬ ((v : Int) < 0) := by omega
  simp only [if_neg h1]
  have h2 : (decide ((0 : Int) ≤ (v : Int)) && decide ((v : Int) < (n : Int))) = true := by
    rw [Bool.and_eq_true]; rw [decide_eq_true_eq, decide_eq_true_eq]
    omega
  rw [if_pos h2]
  rfl
theorem erase_perm : ∀ (l : List Nat) (v x : Nat), l[v]? = some x → (x :: l.eraseIdx v).Perm l
  | [], v, x, h => by simp at h
  | y :: l, 0, x, h => by
    have e : y = x := Option.some.inj h
    rw [e]
    exact List.Perm.refl _
  | y :: l, v + 1, x, h => by
    have ih := erase_perm l v x h
    exact (List.Perm.swap y x _).trans (ih.cons y)
theorem nv_erase : ∀ (l : List Nat) (v : Nat), (nv l).eraseIdx v = nv (l.eraseIdx v)
  | [], _ => rfl
  | _ :: _, 0 => rfl
  | x :: l, v + 1 => congrArg (fun z => iv x :: z) (nv_erase l v)
theorem nv_mix {l : List Nat} {i j : Nat} (hi : i < l.length) (hj : j < l.length) : ∃ m : List Nat, ((nv l).set i (iv (atN l j))).set j (iv (atN l i)) = nv m ∧ m.Perm l := by
  refine ⟨(l.set i l[j]).set j l[i], ?_, List.set_set_perm hi hj⟩
  have e1 : atN l j = l[j] := by
    unfold atN
    rw [List.getD_eq_getElem?_getD, List.getElem?_eq_getElem hj]
    rfl
  have e2 : atN l i = l[i] := by
    unfold atN
    rw [List.getD_eq_getElem?_getD]; rw [List.getElem?_eq_getElem hi]
    rfl
  rw [e1, e2, nv_set, nv_set]
section
variable {P : Program} {w : World} {K : PySem.W.Frag} {mg : Str → Option Value} {base : Heap} {C : Addr}
/-- the law's order -/
def spLOrder : Sp := fun vs H Q _ => ∃ (b c : Addr) (n : Nat), vs = [.ref b, iv n] ∧ Bag H b c ∧ 2 ≤ n ∧ n ≤ 4 ∧
  ∀ (x : Addr) (o : List Nat) (H' : Hp), o.Perm (List.range n) → Bag H' b c → But b H H' → H x = none → x ≠ b → x ≠ c → H' x = some (.lst (nv o)) → Q (.ref x) H'
def loN : List Str := ["_law_bag_here", "_law_places", "_law_left", "_law_found", "_law_way", "_law_k", "_law_one", "_law_other"]
/-- the order is mixed, or left as it is -/
def tMix (n : Nat) : TS := fun D σ H => ∃ (b c lf fd : Addr) (w : Nat) (v5 v6 v7 : Option V) (o : List Nat), σ = [some (.ref b), some (iv n), some (.ref lf), some (.ref fd), some (iv w), v5, v6, v7] ∧ Bag H b c ∧ 2 ≤ n ∧ n ≤ 4 ∧ H fd = some (.lst (nv o)) ∧ o.Perm (List.range n) ∧
  ∀ (fd' : Addr) (v5 v6 v7 : Option V) (o' : List Nat) (H' : Hp), Bag H' b c → But b H H' → o'.Perm (List.range n) → H' fd' = some (.lst (nv o')) → (fd' = fd ∨ H fd' = none) → D.nx [some (.ref b), some (iv n), some (.ref lf), some (.ref fd'), some (iv w), v5, v6, v7] H'
theorem c_lorder (g : Gs K mg) {f : Addr} {fd : FuncData} (D : C8.Def K mg "_law_order" (top 39) f fd) (b : Binds K fd ["_law_bag_here", "_law_places"] []) (cT : C8.Cal P w K mg base 1 "_law_take" spTake []) :
    C8.Cal P w K mg base 2 "_law_order" spLOrder [] := by
  refine C8.cal0 D b .nil (N := loN) (C8.fnScope_by (by decide +kernel)) (fun vs H Q E h => ?_) (fun cdv A outer s H vs Q E hr h => ?_)
  · obtain ⟨b, c, n, rfl, _⟩ := h
    rfl
  · obtain ⟨b, c, n, rfl, hB, n2, n4, q⟩ := h
    have nd : loN.Nodup := by decide +kernel
    refine ⟨_, pss_cons (ps_par3 (i := 2) (j := 3) (l := 4) rfl nd rfl rfl rfl (by decide) (by decide) (by decide) (show (C8.fnScope (top 39)).names.lookup ("_law_left" : Str) = some NameKind.local by decide +kernel) (show (C8.fnScope (top 39)).names.lookup ("_law_found" : Str) = some NameKind.local by decide +kernel)
        (show (C8.fnScope (top 39)).names.lookup ("_law_way" : Str) = some NameKind.local by decide +kernel)
        (pa_cons (pe_listRg rfl (by rfl) g.list (prg_1 (by rfl) g.range (pv 1))) (pa_cons (pe_lst pa_nil) (pa_cons (C8.pe_c cT hr (by decide) (by rfl) (pa_cons (pv 0) (pa_cons pe_int pa_nil))) pa_nil))) (by rfl))
      (pss_cons (ps_for PassesOwn.never rfl (pi_range1 (by rfl) g.range (pa_cons (pv 1) pa_nil)) (pg_name (i := 5) nd rfl (Or.inl rfl))
        (pss_one (ps_expr (pe_bm F.plainAttrs_list F.slot_list_append (by rfl) mt_append (pv 3) (pa_cons (pe_bm F.plainAttrs_list F.slot_list_pop (by rfl) mt_popAt (pv 2)
          (pa_cons (C8.pe_c cT hr (by decide) (by rfl) (pa_cons (pv 0) (pa_cons (pe_callB call_len_seq (by rfl) g.len PySem.boot_len (pa_cons (pv 2) pa_nil)) pa_nil))) pa_nil)) pa_nil)))))
      (pss_cons (ps_if (pt_cmpR op_eq (pv 4) pe_int (nomark _)) (pss_one (ps_ret (pe_revL (pe_listRg rfl (by rfl) g.list (prg_1 (by rfl) g.range (pv 1)))))) pss_nil)
      (pss_cons (PS.imp (t' := tMix n) (ps_if (pt_cmpR op_eq (pv 4) pe_int (nomark _)) (pss_cons (ps_set (i := 3) nd rfl (Or.inl rfl) (pe_listRg rfl (by rfl) g.list (prg_1 (by rfl) g.range (pv 1))))
        (pss_one (ps_for PassesOwn.never rfl (pi_range1 (by rfl) g.range (pa_cons (C8.pe_c cT hr (by decide) (by rfl) (pa_cons (pv 0) (pa_cons pe_int pa_nil))) pa_nil)) (pg_name (i := 5) nd rfl (Or.inl rfl))
          (pss_cons (ps_par (i := 6) (j := 7) rfl nd rfl rfl (by decide) (show (C8.fnScope (top 39)).names.lookup ("_law_one" : Str) = some NameKind.local by decide +kernel) (show (C8.fnScope (top 39)).names.lookup ("_law_other" : Str) = some NameKind.local by decide +kernel)
              (pa_cons (C8.pe_c cT hr (by decide) (by rfl) (pa_cons (pv 0) (pa_cons (pv 1) pa_nil))) (pa_cons (C8.pe_c cT hr (by decide) (by rfl) (pa_cons (pv 0) (pa_cons (pv 1) pa_nil))) pa_nil)) (by rfl))
            (pss_one (ps_asg (pe_tup (pa_cons (pe_ix ix_list (pv 3) (pv 7) (fun _ _ => rfl)) (pa_cons (pe_ix ix_list (pv 3) (pv 6) (fun _ _ => rfl)) pa_nil)))
              (pg_tup rfl (pgs_cons (pg_sub (pv 3) (pv 6) set_list) (pgs_cons (pg_sub (pv 3) (pv 7) set_list) pgs_nil))))))))) pss_nil) ?mix)
      (pss_one (ps_ret (pv 3)))))), ?_⟩
    case mix =>
      intro D σ H h
      obtain ⟨b, c, lf, fd, w, v5, v6, v7, o, rfl, hB, n2, n4, e0, hp, q⟩ := h
      refine ⟨iv w, rfl, rfl, decide (iv w = .int 1), rfl, ?_⟩
      by_cases hx : iv w = .int 1
      · refine ifT (decide_eq_true hx) ⟨iv n, rfl, n, rfl, RgOk.of_le (by omega) (by omega) (by omega) (by omega), fun nf nn => ?_⟩
        rw [rgV_nv]
        obtain ⟨_, _, _, _, hb1, hc1, _⟩ := id hB
        have fb : nf ≠ b := (ne_of_none hb1 nn).symm
        have fc : nf ≠ c := (ne_of_none hc1 nn).symm
        have hB1 : Bag (upd H nf (.lst (nv (List.range n)))) b c := hB.put fb fc
        refine ⟨.ref b, rfl, b, c, 4, rfl, hB1, by decide, by decide, fun c0 H1 lc hB2 bt2 => ⟨c0, rfl, by omega, by omega, ?_⟩⟩
        rw [Int.toNat_natCast]
        have bt1 : But b H H1 := (But.refl.put nn).trans bt2
        refine for_range (lo := 0) (n := c0) (fun i σ H2 => ∃ (v5 v6 v7 : Option V) (o' : List Nat), σ = [some (.ref b), some (iv n), some (.ref lf), some (.ref nf), some (iv w), v5, v6, v7] ∧ Bag H2 b c ∧ But b H H2 ∧ o'.Perm (List.range n) ∧ H2 nf = some (.lst (nv o')))
          ⟨v5, v6, v7, List.range n, rfl, hB2, bt1, List.Perm.refl _, bt2 nf _ fb upd_same⟩ (fun i σ H2 hi hP => ?_) (fun σ H2 hP => ?_)
        · obtain ⟨v5, v6, v7, o', eσ, hB3, bt3, hp3, e3⟩ := hP
          subst eσ
          have lo : o'.length = n := by rw [hp3.length_eq, List.length_range]
          refine ⟨.ref b, rfl, iv n, rfl, b, c, n, rfl, hB3, by omega, by omega, fun y H3 ly hB4 bt4 => ⟨.ref b, rfl, iv n, rfl, b, c, n, rfl, hB4, by omega, by omega, fun z H4 lz hB5 bt5 => ⟨_, _, rfl, ?_⟩⟩⟩
          have e5 := bt5 nf _ fb (bt4 nf _ fb e3)
          obtain ⟨m, em, pm⟩ := nv_mix (l := o') (i := y) (j := z) (by omega) (by omega)
          refine ⟨.ref nf, rfl, iv z, rfl, nf, _, _, _, rfl, rfl, SqL.of e5, at_nv (j := z) rfl (by omega), .ref nf, rfl, iv y, rfl, nf, _, _, _, rfl, rfl, SqL.of e5, at_nv (j := y) rfl (by omega), (by show 2 ≤ sizeLine; decide), fun t nt => ?_⟩
          have e6 := (Same.new nt (o := .tup [iv (atN o' z), iv (atN o' y)])).at e5
          have ntb : t ≠ b := by
            obtain ⟨_, _, _, _, hb5, _⟩ := id hB5
            exact (ne_of_none hb5 nt).symm
          have ntc : t ≠ c := by
            obtain ⟨_, _, _, _, _, hc5, _⟩ := id hB5
            exact (ne_of_none hc5 nt).symm
          have nH : H t = none := by
            cases e : H t with
            | none => rfl
            | some u =>
              rw [((bt3.trans bt4).trans bt5) t u ntb e] at nt
              cases nt
          refine ⟨t, _, rfl, SqT.of upd_same, rfl, _, _, rfl, .ref nf, rfl, iv y, rfl, nf, _, _, y, rfl, rfl, e6, ix_nat rfl (by rw [nv_len]; omega), ?_⟩
          refine ⟨_, _, rfl, .ref nf, rfl, iv z, rfl, nf, _, _, z, rfl, rfl, upd_same, ix_nat rfl (by rw [List.length_set, nv_len]; omega), rfl, some (.int (0 + (i : Nat))), some (iv y), some (iv z), m, rfl, ((hB5.put ntb ntc).put fb fc).put fb fc, ((((bt3.trans bt4).trans bt5).put nH).put nn).put nn, pm.trans hp3, ?_⟩
          rw [upd_same, em]
        · obtain ⟨v5, v6, v7, o', eσ, hB3, bt3, hp3, e3⟩ := hP
          subst eσ
          exact q nf v5 v6 v7 o' H2 hB3 bt3 hp3 e3 (.inr nn)
      · exact ifF (decide_eq_false hx) (q fd v5 v6 v7 o H hB But.refl hp e0 (.inl rfl))
    obtain ⟨_, _, _, _, hb0, hc0, _⟩ := id hB
    refine ⟨iv n, rfl, n, rfl, RgOk.of_le (by omega) (by omega) (by omega) (by omega), fun lf nl => ⟨Nat.zero_le _, fun fd nf => ?_⟩⟩
    rw [rgV_nv] at nf ⊢
    have lb : lf ≠ b := (ne_of_none hb0 nl).symm
    have lc : lf ≠ c := (ne_of_none hc0 nl).symm
    have s1 : Same H (upd H lf (.lst (nv (List.range n)))) := Same.new nl
    have fb : fd ≠ b := (ne_of_none (s1.at hb0) nf).symm
    have fc : fd ≠ c := (ne_of_none (s1.at hc0) nf).symm
    have lfd : lf ≠ fd := ne_of_none upd_same nf
    have nf0 : H fd = none := s1.free nf
    refine ⟨.ref b, rfl, b, c, 6, rfl, (hB.put lb lc).put fb fc, by decide, by decide, fun w0 H1 lw hB1 bt1 => ⟨_, _, _, rfl, ?_⟩⟩
    have bt : But b H H1 := ((But.refl.put nl).put nf0).trans bt1
    have el := bt1 lf (.lst (nv (List.range n))) lb (by rw [upd_ne lfd, upd_same])
    have ef := bt1 fd (.lst []) fb upd_same
    refine ⟨iv n, rfl, n, rfl, by omega, by omega, ?_⟩
    rw [Int.toNat_natCast]
    refine for_range (lo := 0) (n := n) (fun i σ H2 => ∃ (v5 : Option V) (l m : List Nat), σ = [some (.ref b), some (iv n), some (.ref lf), some (.ref fd), some (iv w0), v5, none, none] ∧ (m ++ l).Perm (List.range n) ∧ l.length + i = n ∧ Bag H2 b c ∧ But b H H2 ∧ H2 lf = some (.lst (nv l)) ∧ H2 fd = some (.lst (nv m)))
      ⟨none, List.range n, [], rfl, List.Perm.refl _, by rw [List.length_range]; rfl, hB1, bt, el, ef⟩ (fun i σ H2 hi hP => ?_) (fun σ H2 hP => ?_)
    · obtain ⟨v5, l, m, eσ, hp, hl, hB2, bt2, el2, ef2⟩ := hP
      subst eσ
      refine ⟨.ref fd, rfl, .inl ⟨rfl, _, SqL.of ef2⟩, .ref lf, rfl, .inl ⟨rfl, _, SqL.of el2⟩, .ref b, rfl, .ref lf, rfl, lf, _, rfl, .inl (SqL.of el2), b, c, _, rfl, hB2, by rw [nv_len]; omega, by rw [nv_len]; omega, fun v H3 lv hB3 bt3 => ?_⟩
      rw [nv_len] at lv
      have hv : v < l.length := by omega
      have el3 := bt3 lf _ lb el2
      have ef3 := bt3 fd _ fb ef2
      obtain ⟨x, hx⟩ : ∃ x, l[v]? = some x := ⟨l[v], List.getElem?_eq_getElem hv⟩
      refine ⟨lf, nv l, v, v, iv x, rfl, rfl, el3, by omega, by omega, by rw [nv_len]; exact seqIx hv, nv_get hx, ?_⟩
      have lp := hp.length_eq
      rw [List.length_append, List.length_range] at lp
      refine ⟨fd, nv m, iv x, rfl, rfl, by rw [upd_ne lfd.symm]; exact ef3, by rw [nv_len]; exact small (k := 400) (by omega), some (.int (0 + (i : Nat))), l.eraseIdx v, m ++ [x], rfl, ?_, ?_, (hB3.put lb lc).put fb fc, ((bt2.trans bt3).put nl).put nf0, ?_, ?_⟩
      · rw [List.append_assoc]
        exact ((erase_perm l v x hx).append_left m).trans hp
      · rw [List.length_eraseIdx, if_pos hv]
        omega
      · rw [upd_ne lfd, upd_same, nv_erase]
      · rw [upd_same, nv_app]
        rfl
    · obtain ⟨v5, l, m, eσ, hp, hl, hB2, bt2, el2, ef2⟩ := hP
      subst eσ
      have lz : l = [] := List.eq_nil_of_length_eq_zero (by omega)
      rw [lz, List.append_nil] at hp
      refine ⟨iv w0, rfl, rfl, decide (iv w0 = .int 0), rfl, ?_⟩
      have free : ∀ d, d ≠ b → H2 d = none → H d = none := fun d hd e => by
        cases e2 : H d with
        | none => rfl
        | some u =>
          rw [bt2 d u hd e2] at e
          cases e
      obtain ⟨_, _, _, _, hb2, hc2, _⟩ := id hB2
      by_cases hx : iv w0 = .int 0
      · refine ifT (decide_eq_true hx) ⟨iv n, rfl, n, rfl, RgOk.of_le (by omega) (by omega) (by omega) (by omega), fun p np => ⟨p, _, rfl, SqL.of upd_same, fun p2 np2 => ?_⟩⟩
        have pb : p ≠ b := (ne_of_none hb2 np).symm
        have pc : p ≠ c := (ne_of_none hc2 np).symm
        have np2' : H2 p2 = none := (Same.new np).free np2
        have pb2 : p2 ≠ b := (ne_of_none hb2 np2').symm
        have pc2 : p2 ≠ c := (ne_of_none hc2 np2').symm
        refine q p2 (fall n) _ (fall_perm n) ((hB2.put pb pc).put pb2 pc2) ((bt2.put (free p pb np)).put (free p2 pb2 np2')) (free p2 pb2 np2') pb2 pc2 ?_
        rw [upd_same, rgV_nv, nv_rev]
        rfl
      · refine ifF (decide_eq_false hx) ⟨b, c, lf, fd, w0, v5, none, none, m, rfl, hB2, n2, n4, ef2, hp, fun fd' y5 y6 y7 o' H' hB' bt' hp' e' hor => ⟨.ref fd', rfl, ?_⟩⟩
        have fb' : fd' ≠ b := hor.elim (fun z => by rw [z]; exact fb) fun z => (ne_of_none hb2 z).symm
        have fc' : fd' ≠ c := hor.elim (fun z => by rw [z]; exact fc) fun z => (ne_of_none hc2 z).symm
        have fn' : H fd' = none := hor.elim (fun z => by rw [z]; exact nf0) fun z => free fd' fb' z
        exact q fd' o' H' hp' hB' (bt2.trans bt') fn' fb' fc' e'
end
end K76
namespace K76
open L2 PySem PySem.Spec PyProof.Rows
theorem _root_.L2.PE.imp {X : Cx} {e : Expr} {t t' : TE} (h : PE X e t) (hi : ∀ σ H Q, t' σ H Q → t σ H Q) : PE X e t' := ⟨fun pins s σ H Q I q => h.run pins s σ H Q I (hi σ H Q q)⟩
def retE (s : Stmt) : Expr := match s with | .Return (some e) _ => e | _ => .Name "" ⟨0, 0, 0, 0⟩
def lcElt (e : Expr) : Expr := match e with | .ListComp x _ _ _ => x | _ => .Name "" ⟨0, 0, 0, 0⟩
def lcSc (e : Expr) : Scope := match e with | .ListComp _ _ s _ => s | _ => C8.fnScope (top 41)
def heldN : List Str := ["_law_gates_here", "_law_places", "_law_gone", "_law_last", "_law_size", "_law_k", "_law_t", "_law_rank"]
def heldE : Expr := retE ((C8.fnBody (top 41)).getD 2 (.Pass ⟨0, 0, 0, 0⟩))
abbrev heldS1 : Scope := lcSc heldE
abbrev heldS2 : Scope := lcSc (lcElt heldE)
def env0 (sc : Scope) : Env := envOfC "x" sc 0 0 .none
def rel1 (sc s1 : Scope) : Scope := relabel s1 (env0 sc)
def rel2 (sc s1 s2 : Scope) : Scope := relabel s2 (compEnvC s1 [] 0 (env0 sc))
def rowOf (n k : Nat) (last : List Nat) : List Nat := (List.range (n + 1)).map fun t => ((last.drop t).filter fun r => decide (n - k ≤ r)).length
def tCell : TE := fun σ H Q => ∃ (la : Addr) (last : List Nat) (n k t : Nat) (v0 v2 v4 v7 : Option V), σ = [v0, some (iv n), v2, some (.ref la), v4, some (iv k), some (iv t), v7] ∧ H la = some (.lst (nv last)) ∧ k ≤ n ∧ last.length ≤ 12 ∧
  ∀ H', Same H H' → Q (iv ((last.drop t).filter fun r => decide (n - k ≤ r)).length) H'
def tRow : TE := fun σ H Q => ∃ (la : Addr) (last : List Nat) (n k : Nat) (v0 v2 v6 v7 : Option V), σ = [v0, some (iv n), v2, some (.ref la), some (.int ((n : Int) + 1)), some (iv k), v6, v7] ∧ H la = some (.lst (nv last)) ∧ k ≤ n ∧ n ≤ 12 ∧ last.length ≤ 12 ∧
  ∀ (x : Addr) (H' : Hp), Same H H' → H x = none → H' x = some (.lst (nv (rowOf n k last))) → Q (.ref x) H'
theorem sql_put {K : PySem.W.Frag} {H : Hp} {p D : Addr} {xs : List V} {o : HO} (h : SqL K H p xs) (hp : p ≠ D) : SqL K (upd H D o) p xs := by
  rcases h with (z | ⟨ob, z⟩) | z
  · exact .inl (.inl (by rw [upd_ne hp]; exact z))
  · exact .inl (.inr ⟨ob, by rw [upd_ne hp]; exact z⟩)
  · exact .inr z
theorem rows_put {K : PySem.W.Frag} {H : Hp} {D : Addr} {o : HO} : ∀ {ps : List Addr} {m : List (List Nat)}, Rows K H ps m → (∀ p ∈ ps, p ≠ D) → Rows K (upd H D o) ps m
  | _, _, .nil, _ => .nil
  | _, _, .cons h t, hp => .cons (sql_put h (hp _ List.mem_cons_self)) (rows_put t fun p hm => hp p (List.mem_cons_of_mem _ hm))
section
variable {P : Program} {w : World} {K : PySem.W.Frag} {mg : Str → Option Value} {base : Heap} {C : Addr}
/-- the capacities, rows of counts -/
def spHeld (K : PySem.W.Frag) : Sp := fun vs H Q _ => ∃ (a e : Addr) (n : Nat) (gs : List Nat), vs = [.ref a, iv n, .ref e] ∧ SqL K H a (nv gs) ∧ SqL K H e [] ∧ n ≤ 12 ∧ (∀ x ∈ gs, 1 ≤ x ∧ x < n) ∧
  ∀ (x : Addr) (ps : List Addr) (H' : Hp), Same H H' → H' x = some (.lst (ps.map V.ref)) → Rows K H' ps (held n (plays gs (fall n))) → Q (.ref x) H'
theorem c_held (g : Gs K mg) {f : Addr} {fd : FuncData} (D : C8.Def K mg "_law_held" (top 41) f fd) (b : Binds K fd ["_law_gates_here", "_law_places", "_law_gone"] []) (cP : C8.Cal P w K mg base 1 "_law_play" (spLPlay K) []) :
    C8.Cal P w K mg base 2 "_law_held" (spHeld K) [] := by
  refine C8.cal0 D b .nil (N := heldN) (C8.fnScope_by (by decide +kernel)) (fun vs H Q E h => ?_) (fun cdv A outer s H vs Q E hr h => ?_)
  · obtain ⟨a, e, n, gs, rfl, _⟩ := h
    rfl
  · obtain ⟨a, e, n, gs, rfl, ha, he, hn, hg, q⟩ := h
    have nd : heldN.Nodup := by decide +kernel
    refine ⟨_, pss_cons (ps_set (i := 3) nd rfl (Or.inr rfl) (C8.pe_c cP hr (by decide) (by rfl) (pa_cons (pv 0) (pa_cons (pe_revL (pe_listRg rfl (by rfl) g.list (prg_1 (by rfl) g.range (pv 1)))) (pa_cons (pv 2) pa_nil)))))
      (pss_cons (ps_set (i := 4) nd rfl (Or.inr rfl) (pe_op op_add (pv 1) pe_int))
      (pss_one (ps_ret (pe_lc (own := [("_law_k", 5)]) (g := gName 5) (tt := tYes) (te := tRow) rfl nd (pi_range1 (by rfl) g.range (pa_cons (pv 4) pa_nil)) (blkOk_by (N := heldN) (sc := C8.fnScope (top 41)) (by decide +kernel))
        (fun _ _ _ _ _ => pg_name (i := 5) nd rfl (Or.inr rfl)) (fun _ _ _ _ _ => pts_nil)
        (fun _ _ _ _ _ => PE.imp (t' := tRow) (pe_lc (own := [("_law_t", 6)]) (g := gName 6) (tt := tYes) (te := tCell) rfl nd (pi_range1 (by rfl) g.range (pa_cons (pv 4) pa_nil)) (blkOk_by (N := heldN) (sc := rel1 (C8.fnScope (top 41)) heldS1) (by decide +kernel))
          (fun _ _ _ _ _ => pg_name (i := 6) nd rfl (Or.inl rfl)) (fun _ _ _ _ _ => pts_nil)
          (fun _ _ _ _ _ => PE.imp (t' := tCell) (pe_callB call_len_seq (by rfl) g.len PySem.boot_len (pa_cons (pe_lc (own := [("_law_rank", 7)]) (g := gName 7) rfl nd (pi_list (pe_slice sl_list (pv 3) (po_some (pv 6)) po_none)) (blkOk_by (N := heldN) (sc := rel2 (C8.fnScope (top 41)) heldS1 heldS2) (by decide +kernel))
            (fun _ _ _ _ _ => pg_name (i := 7) nd rfl (Or.inl rfl)) (fun _ _ _ _ _ => pts_one (pt_cmpR op_ge (pv 7) (pe_op op_sub (pv 1) (pv 5)) (nomark _))) (fun _ _ _ _ _ => pv 7)) pa_nil))
            (fun σ H Q h => ?cell))) (fun σ H Q h => ?row)))))), ?_⟩
    case cell =>
      obtain ⟨la, last, n, k, t, v0, v2, v4, v7, rfl, hl, hk, h12, q⟩ := h
      refine ⟨.ref la, rfl, iv t, rfl, t, rfl, la, nv last, rfl, SqL.of hl, fun sl nsl => ?_⟩
      rw [cut_from, nv_drop]
      have s1 : Same H (upd H sl (.lst (nv (last.drop t)))) := Same.new nsl
      refine ⟨sl, rfl, ⟨_, SqL.of upd_same⟩, fun D nD => lc_list (K := K) (a := sl) (xs := nv (last.drop t)) (fun i H2 => Same (upd H sl (.lst (nv (last.drop t)))) H2 ∧ H2 D = some (.lst (nv (((last.drop t).take i).filter fun r => decide (n - k ≤ r)))))
        ⟨Same.new nD, upd_same⟩ (fun i H2 _ hP => SqL.of (hP.1.at upd_same)) (fun i x H2 hx hP => ?_) (fun H2 hP => ?_)⟩
      · obtain ⟨s2, e2⟩ := hP
        obtain ⟨r, hr, rfl⟩ := nv_of_get hx
        refine ⟨rfl, iv r, rfl, iv n, rfl, iv k, rfl, n, k, rfl, rfl, r, (n : Int) - (k : Int), rfl, rfl, decide ((n : Int) - (k : Int) ≤ (r : Int)), rfl, ?_⟩
        by_cases hc : n - k ≤ r
        · refine ifT (decide_eq_true (by omega)) ⟨iv r, rfl, _, e2, ?_, s2.put nD, ?_⟩
          · rw [nv_len]
            refine small (k := 400) ?_
            have h1 := List.length_filter_le (fun r => decide (n - k ≤ r)) ((last.drop t).take i)
            rw [List.length_take, List.length_drop] at h1
            omega
          · rw [upd_same, List.take_add_one, hr, List.filter_append, nv_app]
            have : (some r).toList.filter (fun r => decide (n - k ≤ r)) = [r] := by
              show List.filter _ [r] = [r]
              rw [List.filter_cons, if_pos (decide_eq_true hc)]
              rfl
            rw [this]
            rfl
        · refine ifF (decide_eq_false (by omega)) ⟨s2, ?_⟩
          rw [e2, List.take_add_one, hr, List.filter_append]
          have : (some r).toList.filter (fun r => decide (n - k ≤ r)) = [] := by
            show List.filter _ [r] = []
            rw [List.filter_cons, if_neg (by rw [decide_eq_false hc]; exact Bool.false_ne_true)]
            rfl
          rw [this, List.append_nil]
      · obtain ⟨s2, e2⟩ := hP
        rw [nv_len, List.take_length] at e2
        refine ⟨D, _, rfl, .inl (SqL.of e2), ?_⟩
        rw [nv_len]
        exact q H2 (s1.trans s2)
    case row =>
      obtain ⟨la, last, n, k, v0, v2, v6, v7, rfl, hl, hk, hn, h12, q⟩ := h
      refine ⟨.int ((n : Int) + 1), rfl, (n : Int) + 1, rfl, by omega, by omega, fun D nD => ?_⟩
      rw [show ((n : Int) + 1).toNat = n + 1 by omega]
      refine lc_range (lo := 0) (n := n + 1) (fun i H2 => Same H H2 ∧ H2 D = some (.lst (nv ((List.range i).map fun t => ((last.drop t).filter fun r => decide (n - k ≤ r)).length))))
        ⟨Same.new nD, upd_same⟩ (fun i H2 hi hP => ?_) (fun H2 hP => ?_)
      · obtain ⟨s2, e2⟩ := hP
        rw [show (0 : Int) + ((i : Nat) : Int) = (i : Int) by omega]
        refine ⟨rfl, la, last, n, k, i, _, _, _, _, rfl, s2.at hl, hk, h12, fun H3 s3 => ⟨_, s3.at e2, ?_, (s2.trans s3).put nD, ?_⟩⟩
        · rw [nv_len, List.length_map, List.length_range]
          exact small (k := 400) (by omega)
        · rw [upd_same, List.range_succ, List.map_append, nv_app]
          rfl
      · obtain ⟨s2, e2⟩ := hP
        exact q D H2 s2 nD e2
    refine ⟨.ref a, rfl, iv n, rfl, n, rfl, RgOk.of_le (by omega) (by omega) (by omega) (by omega), fun p1 n1 => ⟨p1, _, rfl, SqL.of upd_same, fun fo n2 => ?_⟩⟩
    rw [rgV_nv] at n2 ⊢
    rw [nv_rev]
    have s1 : Same H (upd (upd H p1 (.lst (nv (List.range n)))) fo (.lst (nv (List.range n).reverse))) := (Same.new n1).upd n2
    refine ⟨.ref e, rfl, a, fo, e, gs, fall n, rfl, s1.seq ha, SqL.of upd_same, s1.seq he, fun x hx => by rw [fall_len]; exact hg x hx, fun la H1 s2 nla e1 => ?_⟩
    have sA := s1.trans s2
    have lf : (plays gs (fall n)).length = n := by rw [plays_len, fall_len]
    generalize hlast : plays gs (fall n) = last at q lf e1
    refine ⟨iv n, rfl, n, 1, rfl, rfl, ?_⟩
    refine ⟨.int ((n : Int) + 1), rfl, (n : Int) + 1, rfl, by omega, by omega, fun D nD => ?_⟩
    rw [show ((n : Int) + 1).toNat = n + 1 by omega]
    refine lc_range (lo := 0) (n := n + 1) (fun i H2 => Same H1 H2 ∧ ∃ ps : List Addr, H2 D = some (.lst (ps.map V.ref)) ∧ Rows K H2 ps ((List.range i).map fun k => rowOf n k last) ∧ ∀ p ∈ ps, p ≠ D)
      ⟨Same.new nD, [], upd_same, .nil, fun p hp => by cases hp⟩ (fun i H2 hi hP => ?_) (fun H2 hP => ?_)
    · obtain ⟨s3, ps, e2, rw2, np⟩ := hP
      rw [show (0 : Int) + ((i : Nat) : Int) = (i : Int) by omega]
      refine ⟨rfl, la, last, n, i, _, _, _, _, rfl, s3.at e1, by omega, hn, by omega, fun x H3 s4 nx ex => ⟨_, s4.at e2, ?_, (s3.trans s4).put nD, ps ++ [x], ?_, ?_, ?_⟩⟩
      · have := rw2.len
        rw [List.length_map, List.length_range] at this
        rw [List.length_map]
        exact small (k := 400) (by omega)
      · rw [upd_same, List.map_append]
        rfl
      · have xD : x ≠ D := (ne_of_none e2 nx).symm
        rw [List.range_succ, List.map_append]
        exact Rows.app (sql_put (SqL.of ex) xD) (rows_put (rw2.same s4) np)
      · intro p hp
        rcases List.mem_append.mp hp with (z | z)
        · exact np p z
        · have ez := List.mem_singleton.mp z
          rw [ez]
          exact (ne_of_none e2 nx).symm
    · obtain ⟨s3, ps, e2, rw2, np⟩ := hP
      exact q D ps H2 (sA.trans s3) e2 rw2
end
end K76
namespace K76
open L2 PySem PySem.Spec PyProof.Rows
/-- rows, each tracked -/
def RowsH (H : Hp) (ps : List Addr) (m : List (List Nat)) : Prop := Paired (fun p l => H p = some (.lst (nv l))) ps m
theorem RowsH.rows {K : PySem.W.Frag} {H : Hp} : ∀ {ps : List Addr} {m : List (List Nat)}, RowsH H ps m → Rows K H ps m
  | _, _, .nil => .nil
  | _, _, .cons h t => .cons (SqL.of h) (RowsH.rows t)
theorem RowsH.same {H H1 : Hp} (s : Same H H1) : ∀ {ps : List Addr} {m : List (List Nat)}, RowsH H ps m → RowsH H1 ps m
  | _, _, .nil => .nil
  | _, _, .cons h t => .cons (s.at h) (RowsH.same s t)
theorem RowsH.app {H : Hp} {p : Addr} {l : List Nat} (hp : H p = some (.lst (nv l))) : ∀ {ps : List Addr} {m : List (List Nat)}, RowsH H ps m → RowsH H (ps ++ [p]) (m ++ [l])
  | _, _, .nil => .cons hp .nil
  | _, _, .cons h t => .cons h (RowsH.app hp t)
theorem RowsH.cat {H : Hp} {qs : List Addr} {k : List (List Nat)} (r : RowsH H qs k) : ∀ {ps : List Addr} {m : List (List Nat)}, RowsH H ps m → RowsH H (ps ++ qs) (m ++ k)
  | _, _, .nil => r
  | _, _, .cons h t => .cons h (RowsH.cat r t)
theorem RowsH.len {H : Hp} {ps : List Addr} {m : List (List Nat)} (r : RowsH H ps m) : ps.length = m.length := Paired.length r
theorem RowsH.get {H : Hp} : ∀ {ps : List Addr} {m : List (List Nat)} {i : Nat} {p : Addr}, RowsH H ps m → ps[i]? = some p → ∃ l, m[i]? = some l ∧ H p = some (.lst (nv l))
  | _, _, _, _, .nil, e => absurd e (by simp)
  | _, _, 0, _, .cons h t, e => ⟨_, rfl, by
      have e' := Option.some.inj e
      rw [← e']
      exact h⟩
  | _, _, i + 1, _, .cons h t, e => RowsH.get (i := i) t e
theorem RowsH.put {H : Hp} {D : Addr} {o : HO} : ∀ {ps : List Addr} {m : List (List Nat)}, RowsH H ps m → (∀ p ∈ ps, p ≠ D) → RowsH (upd H D o) ps m
  | _, _, .nil, _ => .nil
  | _, _, .cons h t, hp => .cons (by rw [upd_ne (hp _ List.mem_cons_self)]; exact h) (RowsH.put t fun p hm => hp p (List.mem_cons_of_mem _ hm))
/-- the last of a row, as a slice -/
theorem cut_last (r : List Nat) : cutV (nv r) (some (-1)) none = nv (r.drop (r.length - 1)) := by
  have e : HT.sIx (nv r).length 0 (some (-1)) = r.length - 1 := by
    show (if (-1 : Int) < 0 then ((-1 : Int) + (((nv r).length : Nat) : Int)).toNat else min (-1 : Int).toNat (nv r).length) = r.length - 1
    rw [if_pos (by decide), nv_len]
    omega
  unfold cutV
  rw [e, HT.sIx_none, nv_len, nv_drop, List.take_of_length_le]
  rw [nv_len, List.length_drop]
  exact Nat.le_refl _
theorem last_iff (r : List Nat) (g : Nat) : r.drop (r.length - 1) = [g] ↔ r.getLast? = some g := by
  cases r with
  | nil => simp
  | cons x r =>
    rw [show (x :: r).getLast? = (x :: r)[(x :: r).length - 1]? from List.getLast?_eq_getElem?]
    have hl : (x :: r).length - 1 < (x :: r).length := by
      rw [List.length_cons]
      omega
    rw [List.drop_eq_getElem_cons hl, List.drop_eq_nil_of_le (by omega), List.getElem?_eq_getElem hl]
    constructor
    · intro h
      injection h with h
      rw [h]
    · intro h
      injection h with h
      rw [h]
theorem longer1_len (n : Nat) (r : List Nat) : (longer1 n r).length ≤ n - 1 := by
  unfold longer1
  rw [List.length_map]
  have := List.length_filter_le (fun g => decide (r.getLast? ≠ some g)) ((List.range (n - 1)).map (· + 1))
  rw [List.length_map, List.length_range] at this
  exact this
theorem longer_len {n : Nat} (hn : n ≤ 4) : ∀ L : List (List Nat), (longer n L).length ≤ 3 * L.length
  | [] => Nat.le_refl _
  | r :: L => by
    have ih := longer_len hn L
    have h1 := longer1_len n r
    have e : longer n (r :: L) = longer1 n r ++ longer n L := rfl
    rw [e]; rw [List.length_append, List.length_cons]
    omega
theorem longer_take {n : Nat} {L : List (List Nat)} {i : Nat} {r : List Nat} (h : L[i]? = some r) : longer n (L.take (i + 1)) = longer n (L.take i) ++ longer1 n r := by
  unfold longer
  rw [List.take_add_one, h, List.flatMap_append]
  simp
theorem longer_in {n k : Nat} {L : List (List Nat)} (h : ∀ r ∈ L, r.length ≤ k) : ∀ r ∈ longer n L, r.length ≤ k + 1 := by
  intro r hr
  obtain ⟨q, hq, hr2⟩ := List.mem_flatMap.mp hr
  obtain ⟨g, _, rfl⟩ := List.mem_map.mp hr2
  have := h q hq
  rw [List.length_append]; rw [List.length_singleton]
  omega
def rwN : List Str := ["_law_places", "_law_many", "_law_found", "_law_last", "_law_k", "_law_longer", "_law_row", "_law_gate"]
/-- the rows one gate longer than a row -/
def tLong (n : Nat) : TE := fun σ H Q => ∃ (v1 v2 v3 v4 v5 v7 : Option V) (p : Addr) (r : List Nat), σ = [some (iv n), v1, v2, v3, v4, v5, some (.ref p), v7] ∧ H p = some (.lst (nv r)) ∧ r.length ≤ 12 ∧ 2 ≤ n ∧ n ≤ 4 ∧
  ∀ (x : Addr) (ps : List Addr) (H' : Hp), Same H H' → H x = none → H' x = some (.lst (ps.map V.ref)) → RowsH H' ps (longer1 n r) → Q (.ref x) H'
/-- the row does not end with this gate -/
def tLast : TT := fun σ H Q => ∃ (v0 v1 v2 v3 v4 v5 : Option V) (p : Addr) (r : List Nat) (g : Nat), σ = [v0, v1, v2, v3, v4, v5, some (.ref p), some (iv g)] ∧ H p = some (.lst (nv r)) ∧ ∀ H', Same H H' → Q (decide (r.getLast? ≠ some g)) H'
theorem _root_.L2.PTs.imp {X : Cx} {ifs : List Expr} {t t' : TT} (h : PTs X ifs t) (hi : ∀ σ H Q, t' σ H Q → t σ H Q) : PTs X ifs t' := ⟨fun pins s σ H Q I q => h.run pins s σ H Q I (hi σ H Q q)⟩
section
variable {P : Program} {w : World} {K : PySem.W.Frag} {mg : Str → Option Value} {base : Heap} {C : Addr}
def spRows (K : PySem.W.Frag) : Sp := fun vs H Q _ => ∃ n m : Nat, vs = [iv n, iv m] ∧ 2 ≤ n ∧ n ≤ 4 ∧ m ≤ 6 ∧
  ∀ (x : Addr) (ps : List Addr) (H' : Hp), Same H H' → H' x = some (.lst (ps.map V.ref)) → RowsH H' ps (rows n m) → Q (.ref x) H'
theorem c_rows (g : Gs K mg) {f : Addr} {fd : FuncData} (D : C8.Def K mg "_law_rows" (top 43) f fd) (b : Binds K fd ["_law_places", "_law_many"] []) : C8.Cal P w K mg base 1 "_law_rows" (spRows K) [] := by
  refine C8.cal0 D b .nil (N := rwN) (C8.fnScope_by (by decide +kernel)) (fun vs H Q E h => ?_) (fun cdv A outer s H vs Q E hr h => ?_)
  · obtain ⟨n, m, rfl, _⟩ := h
    rfl
  · obtain ⟨n, m, rfl, n2, n4, hm, q⟩ := h
    have nd : rwN.Nodup := by decide +kernel
    refine ⟨_, pss_cons (ps_par (i := 2) (j := 3) rfl nd rfl rfl (by decide) (show (C8.fnScope (top 43)).names.lookup ("_law_found" : Str) = some NameKind.local by decide +kernel) (show (C8.fnScope (top 43)).names.lookup ("_law_last" : Str) = some NameKind.local by decide +kernel)
        (pa_cons (pe_lst (pa_cons (pe_lst pa_nil) pa_nil)) (pa_cons (pe_lst (pa_cons (pe_lst pa_nil) pa_nil)) pa_nil)) (by rfl))
      (pss_cons (ps_for PassesOwn.never rfl (pi_range1 (by rfl) g.range (pa_cons (pv 1) pa_nil)) (pg_name (i := 4) nd rfl (Or.inl rfl))
        (pss_cons (ps_set (i := 5) nd rfl (Or.inl rfl) (pe_lst pa_nil))
        (pss_cons (ps_for PassesOwn.never rfl (pi_list (pv 3)) (pg_name (i := 6) nd rfl (Or.inr rfl))
          (pss_one (ps_set (i := 5) nd rfl (Or.inl rfl) (pe_op op_cat (pv 5) (PE.imp (t' := tLong n) (pe_lc (own := [("_law_gate", 7)]) (g := gName 7) rfl nd (pi_range2 (by rfl) g.range (pa_cons pe_int (pa_cons (pv 0) pa_nil))) (blkOk_by (N := rwN) (sc := C8.fnScope (top 43)) (by decide +kernel))
            (fun _ _ _ _ _ => pg_name (i := 7) nd rfl (Or.inl rfl)) (tt := tLast) (fun _ _ _ _ _ => PTs.imp (pts_one (pt_cmpR (op_neD hr.units) (pe_slice sl_list (pv 6) (po_some (pe_un un_neg pe_int)) po_none) (pe_lst (pa_cons (pv 7) pa_nil)) (nomark _))) (fun σ H Q h => ?tst))
            (fun _ _ _ _ _ => pe_op op_cat (pv 6) (pe_lst (pa_cons (pv 7) pa_nil)))) (fun σ H Q h => ?lng))))))
        (pss_one (ps_par (i := 2) (j := 3) rfl nd rfl rfl (by decide) (show (C8.fnScope (top 43)).names.lookup ("_law_found" : Str) = some NameKind.local by decide +kernel) (show (C8.fnScope (top 43)).names.lookup ("_law_last" : Str) = some NameKind.local by decide +kernel)
          (pa_cons (pe_op op_cat (pv 2) (pv 5)) (pa_cons (pv 5) pa_nil)) (by rfl))))))
      (pss_one (ps_ret (pv 2)))), ?_⟩
    case tst =>
      obtain ⟨v0, v1, v2, v3, v4, v5, p, r, g, rfl, hp, q⟩ := h
      refine ⟨.ref p, rfl, 1, rfl, -1, rfl, p, nv r, rfl, SqL.of hp, fun sl nsl => ?_⟩
      rw [cut_last]
      refine ⟨iv g, rfl, (by show 1 ≤ sizeLine; decide), fun ll nll => ?_⟩
      have s1 := (Same.new nsl (o := .lst (nv (r.drop (r.length - 1))))).upd nll (o := .lst [iv g])
      refine ⟨dl (r.drop (r.length - 1)), dl [g], dp_nv (SqL.of ?_), dp_nv (SqL.of upd_same), dl_shaped _, dl_shaped _, !PyData.eqv (dl (r.drop (r.length - 1))) (dl [g]), rfl, ?_⟩
      · rw [upd_ne (ne_of_none upd_same nll), upd_same]
      · rw [dl_eqv]
        have e : (!decide (r.drop (r.length - 1) = [g])) = decide (r.getLast? ≠ some g) := by
          by_cases hc : r.getLast? = some g
          · rw [decide_eq_true ((last_iff r g).mpr hc), decide_eq_false (fun z => z hc)]
            rfl
          · rw [decide_eq_false (fun z => hc ((last_iff r g).mp z)), decide_eq_true hc]
            rfl
        rw [e]
        exact q _ s1
    case lng =>
      obtain ⟨v1, v2, v3, v4, v5, v7, p, r, rfl, hp, hr, n2, n4, q⟩ := h
      refine ⟨iv n, rfl, 1, n, rfl, ⟨by omega, by omega, by omega, by omega⟩, fun D nD => ?_⟩
      rw [show ((n : Int) - 1).toNat = n - 1 by omega]
      refine lc_range (lo := 1) (n := n - 1) (fun i H2 => Same H H2 ∧ ∃ ps : List Addr, H2 D = some (.lst (ps.map V.ref)) ∧ RowsH H2 ps ((((List.range i).map (· + 1)).filter fun g => decide (r.getLast? ≠ some g)).map fun g => r ++ [g]) ∧ ∀ y ∈ ps, y ≠ D)
        ⟨Same.new nD, [], upd_same, .nil, fun y hy => by cases hy⟩ (fun i H2 hi hP => ?_) (fun H2 hP => ?_)
      · obtain ⟨s2, ps, e2, r2, np⟩ := hP
        have lps : ps.length ≤ 400 := by
          have h1 := r2.len
          have h2 := List.length_filter_le (fun g => decide (r.getLast? ≠ some g)) ((List.range i).map (· + 1))
          rw [List.length_map] at h1
          rw [List.length_map, List.length_range] at h2
          omega
        rw [show (1 : Int) + ((i : Nat) : Int) = ((i + 1 : Nat) : Int) by omega]
        refine ⟨rfl, _, _, _, _, _, _, p, r, i + 1, rfl, s2.at hp, fun H3 s3 => ?_⟩
        by_cases hc : r.getLast? ≠ some (i + 1)
        · refine ifT (decide_eq_true hc) ⟨.ref p, rfl, iv (i + 1), rfl, (by show 1 ≤ sizeLine; decide), fun ll nll => ⟨p, ll, nv r, [iv (i + 1)], rfl, rfl, (Same.new nll).at (s3.at (s2.at hp)), upd_same, ?_, fun c nc => ?_⟩⟩
          · rw [nv_len]
            exact small' (k := 400) (by show r.length + 1 ≤ 400; omega)
          · have s4 : Same H3 (upd (upd H3 ll (.lst [iv (i + 1)])) c (.lst (nv r ++ [iv (i + 1)]))) := (Same.new nll).upd nc
            have eD := s4.at (s3.at e2)
            have cD : c ≠ D := (ne_of_none ((Same.new nll).at (s3.at e2)) nc).symm
            refine ⟨_, eD, by rw [List.length_map]; exact small lps, ((s2.trans s3).trans s4).put nD, ps ++ [c], ?_, ?_, ?_⟩
            · rw [upd_same, List.map_append]
              rfl
            · rw [List.range_succ, List.map_append, List.filter_append, List.map_append]
              have e1 : (([i].map (· + 1)).filter fun g => decide (r.getLast? ≠ some g)) = [i + 1] := by
                show List.filter _ [i + 1] = _
                rw [List.filter_cons, if_pos (decide_eq_true hc)]
                rfl
              rw [e1]
              refine RowsH.app ?_ (RowsH.put ((r2.same s3).same s4) np)
              rw [upd_ne cD, upd_same, nv_app]
              rfl
            · intro y hy
              rcases List.mem_append.mp hy with z | z
              · exact np y z
              · have ez := List.mem_singleton.mp z
                rw [ez]
                exact cD
        · refine ifF (decide_eq_false hc) ⟨s2.trans s3, ps, s3.at e2, ?_, np⟩
          rw [List.range_succ, List.map_append, List.filter_append, List.map_append]
          have e1 : (([i].map (· + 1)).filter fun g => decide (r.getLast? ≠ some g)) = [] := by
            show List.filter _ [i + 1] = _
            rw [List.filter_cons, if_neg (by rw [decide_eq_false hc]; exact Bool.false_ne_true)]
            rfl
          rw [e1]
          show RowsH H3 ps (_ ++ [])
          rw [List.append_nil]
          exact r2.same s3
      · obtain ⟨s2, ps, e2, r2, np⟩ := hP
        exact q D ps H2 s2 nD e2 r2
    refine ⟨Nat.zero_le _, fun p1 n1 => ⟨(by show 1 ≤ sizeLine; decide), fun fa nfa => ⟨Nat.zero_le _, fun p3 n3 => ⟨(by show 1 ≤ sizeLine; decide), fun la nla => ⟨_, _, rfl, ?_⟩⟩⟩⟩⟩
    have sA := Same.new n1 (o := .lst [])
    have sB := Same.new nfa (o := .lst [.ref p1])
    have sC := Same.new n3 (o := .lst [])
    have sD := Same.new nla (o := .lst [.ref p3])
    have s1 := ((sA.trans sB).trans sC).trans sD
    have e1 := sD.at (sC.at (sB.at (upd_same (H := H) (a := p1) (o := .lst []))))
    have ef := sD.at (sC.at (upd_same (a := fa) (o := HO.lst [V.ref p1]) (H := upd H p1 (.lst []))))
    have e3 := sD.at (upd_same (a := p3) (o := HO.lst []) (H := upd (upd H p1 (.lst [])) fa (.lst [.ref p1])))
    have el := upd_same (a := la) (o := HO.lst [V.ref p3]) (H := upd (upd (upd H p1 (.lst [])) fa (.lst [.ref p1])) p3 (.lst []))
    refine ⟨iv m, rfl, m, rfl, by omega, by omega, ?_⟩
    rw [Int.toNat_natCast]
    refine for_range (lo := 0) (n := m) (fun i σ H2 => ∃ (ps qs : List Addr) (fa la : Addr) (v4 v5 v6 v7 : Option V), σ = [some (iv n), some (iv m), some (.ref fa), some (.ref la), v4, v5, v6, v7] ∧ Same H H2 ∧ H2 fa = some (.lst (ps.map V.ref)) ∧ H2 la = some (.lst (qs.map V.ref)) ∧
        RowsH H2 ps (rowsK n i).1 ∧ RowsH H2 qs (rowsK n i).2 ∧ (rowsK n i).2.length ≤ 3 ^ i ∧ (rowsK n i).1.length ≤ 2 * 3 ^ i ∧ ∀ r ∈ (rowsK n i).2, r.length ≤ i)
      ⟨[p1], [p3], fa, la, none, none, none, none, rfl, s1, ef, el, .cons e1 .nil, .cons e3 .nil, by show 1 ≤ 1; omega, by show 1 ≤ 2 * 1; omega, fun r hr => by rw [List.mem_singleton.mp hr]; exact Nat.le_refl _⟩ (fun i σ H2 hi hP => ?_) (fun σ H2 hP => ?_)
    · obtain ⟨ps, qs, fa, la, v4, v5, v6, v7, eσ, s2, f1, f2, r1, r2, l1, l2, l3⟩ := hP
      subst eσ
      have hpw : 3 ^ i ≤ 3 ^ 6 := Nat.pow_le_pow_right (by omega) (by omega)
      have hpw2 : (3 : Nat) ^ 6 = 729 := by decide
      generalize hL : (rowsK n i).2 = L at r2 l1 l3
      have hsuc : rowsK n (i + 1) = ((rowsK n i).1 ++ longer n L, longer n L) := by
        show ((rowsK n i).1 ++ longer n (rowsK n i).2, longer n (rowsK n i).2) = _
        rw [hL]
      refine ⟨Nat.zero_le _, fun lg nlg => ?_⟩
      have s3 : Same H2 (upd H2 lg (.lst [])) := Same.new nlg
      refine ⟨.ref la, rfl, la, rfl, ⟨_, SqL.of (s3.at f2)⟩, for_list (K := K) (a := la) (xs := qs.map V.ref) (fun j σ H3 => ∃ (lg : Addr) (ts : List Addr) (v6 v7 : Option V), σ = [some (iv n), some (iv m), some (.ref fa), some (.ref la), some (.int (0 + (i : Nat))), some (.ref lg), v6, v7] ∧ Same H2 H3 ∧
        H3 lg = some (.lst (ts.map V.ref)) ∧ RowsH H3 ts (longer n (L.take j))) ⟨lg, [], v6, v7, rfl, s3, upd_same, .nil⟩ (fun j σ H3 _ hQ => ?_) (fun j x σ H3 hx hQ => ?_) (fun σ H3 hQ => ?_)⟩
      · obtain ⟨_, _, _, _, _, s4, _⟩ := hQ
        exact SqL.of (s4.at f2)
      · obtain ⟨lg, ts, v6, v7, eσ, s4, g1, g2⟩ := hQ
        subst eσ
        obtain ⟨t, ht, rfl⟩ := refs_get hx
        obtain ⟨r, hr, er⟩ := r2.get ht
        have l4 := l3 r (List.mem_of_getElem? hr)
        have hj : j < L.length := (List.getElem?_eq_some_iff.mp hr).1
        refine ⟨.ref lg, rfl, _, _, _, _, _, _, t, r, rfl, s4.at er, by omega, n2, n4, fun x us H5 s5 nx ex rx => ⟨lg, x, _, _, rfl, rfl, s5.at g1, ex, ?_, fun c nc => ?_⟩⟩
        · have h1 := g2.len
          have h2 := longer_len n4 (L.take j)
          have h3 := rx.len
          have h4 := longer1_len n r
          rw [List.length_take] at h2
          rw [List.length_map, List.length_map]
          exact small' (k := 10000) (by omega)
        · have s6 : Same H5 (upd H5 c (.lst (ts.map V.ref ++ us.map V.ref))) := Same.new nc
          refine ⟨c, ts ++ us, _, _, rfl, (s4.trans s5).trans s6, ?_, ?_⟩
          · rw [upd_same, List.map_append]
          · rw [longer_take hr]
            exact RowsH.cat (rx.same s6) ((g2.same s5).same s6)
      · obtain ⟨lg, ts, v6, v7, eσ, s4, g1, g2⟩ := hQ
        subst eσ
        have lq := r2.len
        rw [List.length_map, lq, List.take_length] at g2
        have h2 := longer_len n4 L
        have h3 := g2.len
        have h4 := r1.len
        have hpw3 : 3 ^ (i + 1) = 3 * 3 ^ i := by rw [Nat.pow_succ, Nat.mul_comm]
        refine ⟨.ref fa, rfl, .ref lg, rfl, fa, lg, _, _, rfl, rfl, s4.at f1, g1, ?_, fun c nc => ⟨.ref lg, rfl, _, _, rfl, ?_⟩⟩
        · rw [List.length_map, List.length_map]
          exact small' (k := 10000) (by omega)
        · have s6 : Same H3 (upd H3 c (.lst (ps.map V.ref ++ ts.map V.ref))) := Same.new nc
          refine ⟨ps ++ ts, ts, c, lg, _, _, _, _, rfl, (s2.trans s4).trans s6, ?_, s6.at g1, ?_, ?_, ?_, ?_, ?_⟩
          · rw [upd_same, List.map_append]
          · rw [hsuc]
            exact RowsH.cat (g2.same s6) ((r1.same s4).same s6)
          · rw [hsuc]
            exact g2.same s6
          · rw [hsuc]
            show (longer n L).length ≤ _
            omega
          · rw [hsuc]
            show ((rowsK n i).1 ++ longer n L).length ≤ _
            rw [List.length_append]
            omega
          · rw [hsuc]
            exact longer_in l3
    · obtain ⟨ps, qs, fa, la, v4, v5, v6, v7, eσ, s2, f1, f2, r1, r2, l1, l2, l3⟩ := hP
      subst eσ
      exact ⟨.ref fa, rfl, q fa ps H2 s2 f1 r1⟩
end
end K76
/-! Plain facts for 2 to 4 places. -/
namespace K76
theorem mem_ins (x : Nat) : ∀ l1 l2 : List Nat, l1 ++ x :: l2 ∈ ins x (l1 ++ l2)
  | [], [] => List.mem_singleton.mpr rfl
  | [], y :: l2 => List.mem_cons_self
  | y :: l1, l2 => List.mem_cons_of_mem _ (List.mem_map.mpr ⟨l1 ++ x :: l2, mem_ins x l1 l2, rfl⟩)
theorem mem_perms : ∀ (n : Nat) (o : List Nat), o.Perm (List.range n) → o ∈ perms n
  | 0, o, h => by
    have e : o = [] := List.Perm.eq_nil h
    rw [e]
    exact List.mem_singleton.mpr rfl
  | n + 1, o, h => by
    have hn : n ∈ o := h.mem_iff.mpr (List.mem_range.mpr (Nat.lt_succ_self n))
    obtain ⟨l1, l2, rfl⟩ := List.append_of_mem hn
    have h1 : (n :: (l1 ++ l2)).Perm (n :: List.range n) := by
      refine List.perm_middle.symm.trans (h.trans ?_)
      rw [List.range_succ]
      exact List.perm_append_singleton n _
    exact List.mem_flatMap.mpr ⟨l1 ++ l2, mem_perms n _ h1.cons_inv, mem_ins n l1 l2⟩
def okRows (n : Nat) : Bool := (rows n (n * (n - 1) / 2)).all fun r => r.all fun x => decide (1 ≤ x) && decide (x < n)
def okLen (n : Nat) : Bool := decide ((rows n (n * (n - 1) / 2)).length ≤ 1000)
def okRl (n : Nat) : Bool := (rows n (n * (n - 1) / 2)).all fun r => decide (r.length ≤ 12)
def okHind (n : Nat) : Bool := (perms n).all fun o => (List.range (n + 1)).all fun k => (hinds n k o).length == k
/-- all that is known of so many places -/
structure Known (n : Nat) : Prop where
  k_held : okHeld n = true
  k_sort : okSort n = true
  k_raise : okRaise n = true
  k_step : okStep n = true
  k_perm : okPerm n = true
  k_rows : okRows n = true
  k_len : okLen n = true
  k_hind : okHind n = true
  k_rl : okRl n = true
theorem rows2 : okRows 2 = true := by decide +kernel
theorem rows3 : okRows 3 = true := by decide +kernel
theorem rows4 : okRows 4 = true := by decide +kernel
theorem len2 : okLen 2 = true := by decide +kernel
theorem len3 : okLen 3 = true := by decide +kernel
theorem len4 : okLen 4 = true := by decide +kernel
theorem hind2 : okHind 2 = true := by decide +kernel
theorem hind3 : okHind 3 = true := by decide +kernel
theorem hind4 : okHind 4 = true := by decide +kernel
theorem rl2 : okRl 2 = true := by decide +kernel
theorem rl3 : okRl 3 = true := by decide +kernel
theorem rl4 : okRl 4 = true := by decide +kernel
theorem known {n : Nat} (h1 : 2 ≤ n) (h2 : n ≤ 4) : Known n := by
  rcases (by omega : n = 2 ∨ n = 3 ∨ n = 4) with rfl | rfl | rfl
  · exact ⟨held2, sort2, raise2, step2, perm2, rows2, len2, hind2, rl2⟩
  · exact ⟨held3, sort3, raise3, step3, perm3, rows3, len3, hind3, rl3⟩
  · exact ⟨held4, sort4, raise4, step4, perm4, rows4, len4, hind4, rl4⟩
section
variable {n : Nat}
theorem kn_fall : fall n ∈ perms n := mem_perms n _ (fall_perm n)
theorem kn_next (N : Known n) {o : List Nat} {g : Nat} (ho : o ∈ perms n) (h1 : 1 ≤ g) (h2 : g < n) : step o g ∈ perms n ∧ (bad o g = true → inv (step o g) + 1 = inv o) := by
  have h := List.all_eq_true.mp (List.all_eq_true.mp N.k_step o ho) (g - 1) (List.mem_range.mpr (by omega))
  rw [show g - 1 + 1 = g by omega, Bool.and_eq_true] at h
  refine ⟨List.contains_iff_mem.mp h.1, fun hb => ?_⟩
  have h3 := h.2
  rw [hb] at h3
  exact eq_of_beq h3
theorem kn_plays (N : Known n) : ∀ (gs o : List Nat), o ∈ perms n → (∀ g ∈ gs, 1 ≤ g ∧ g < n) → plays gs o ∈ perms n ∧ (exch gs o 0).length + inv (plays gs o) = inv o
  | [], o, ho, _ => ⟨ho, Nat.zero_add _⟩
  | g :: gs, o, ho, hg => by
    have h1 := kn_next N ho (hg g List.mem_cons_self).1 (hg g List.mem_cons_self).2
    have ih := kn_plays N gs (step o g) h1.1 fun y hy => hg y (List.mem_cons_of_mem _ hy)
    refine ⟨ih.1, ?_⟩
    have sh : ∀ (l o : List Nat) (k : Nat), (exch l o k).length = (exch l o 0).length := by
      intro l
      induction l with
      | nil => intro o k; rfl
      | cons x l ihl =>
        intro o k
        show (if bad o x then k :: exch l (step o x) (k + 1) else exch l (step o x) (k + 1)).length = (if bad o x then 0 :: exch l (step o x) (0 + 1) else exch l (step o x) (0 + 1)).length
        split
        · rw [List.length_cons, List.length_cons, ihl _ (k + 1), ihl _ (0 + 1)]
        · rw [ihl _ (k + 1), ihl _ (0 + 1)]
    show (if bad o g then 0 :: exch gs (step o g) (0 + 1) else exch gs (step o g) (0 + 1)).length + inv (K76.plays gs (step o g)) = inv o
    cases hb : bad o g with
    | true =>
      rw [if_pos rfl, List.length_cons, sh]
      have := h1.2 hb
      have := ih.2
      omega
    | false =>
      rw [if_neg Bool.false_ne_true, sh]
      have e : step o g = o := by
        unfold step
        rw [hb]
        rw [if_neg (show ¬ (false = true) from Bool.false_ne_true)]
      rw [e] at ih ⊢
      exact ih.2
theorem kn_ok (N : Known n) : (∀ r ∈ rows n (n * (n - 1) / 2), ∀ x ∈ r, 1 ≤ x ∧ x < n) ∧ (rows n (n * (n - 1) / 2)).length ≤ 1000 := by
  refine ⟨fun r hr x hx => ?_, of_decide_eq_true N.k_len⟩
  have h := List.all_eq_true.mp (List.all_eq_true.mp N.k_rows r hr) x hx
  rw [Bool.and_eq_true, decide_eq_true_eq, decide_eq_true_eq] at h
  exact h
theorem kn_rl (N : Known n) : ∀ r ∈ rows n (n * (n - 1) / 2), r.length ≤ 12 := fun r hr => of_decide_eq_true (List.all_eq_true.mp N.k_rl r hr)
theorem find_of {α : Type} {l : List α} {p : α → Bool} {f : α → Nat} {k : Nat} (h : ((l.find? p).map f == some k) = true) : ∃ r, l.find? p = some r ∧ f r = k := by
  have h' := eq_of_beq h
  cases e : l.find? p with
  | none =>
    rw [e] at h'
    cases h'
  | some r =>
    rw [e] at h'
    exact ⟨r, rfl, Option.some.inj h'⟩
theorem kn_shortest (N : Known n) {gs : List Nat} (hg : ∀ g ∈ gs, 1 ≤ g ∧ g < n) : ∃ r, (K76.rows n (n * (n - 1) / 2)).find? (fun r => K76.held n (K76.plays r (K76.fall n)) == K76.held n (K76.plays gs (K76.fall n))) = some r ∧ r.length = (exch gs (K76.fall n) 0).length := by
  have h1 := kn_plays N gs _ kn_fall hg
  obtain ⟨r, e1, e2⟩ := find_of (List.all_eq_true.mp N.k_held _ h1.1)
  exact ⟨r, e1, by rw [e2]; have := h1.2; omega⟩
theorem kn_sorted (N : Known n) {gs o : List Nat} (ho : o.Perm (List.range n)) (hg : ∀ g ∈ gs, 1 ≤ g ∧ g < n) : ∃ r, (K76.rows n (n * (n - 1) / 2)).find? (fun r => K76.plays r (K76.plays gs o) == List.range n) = some r ∧ r.length = (sorting (K76.plays gs o)).length :=
  find_of (List.all_eq_true.mp N.k_sort _ (kn_plays N gs o (mem_perms n o ho) hg).1)
theorem kn_raised (N : Known n) {gs : List Nat} {k t s : Nat} (hg : ∀ g ∈ gs, 1 ≤ g ∧ g < n) (hk : k ≤ n) (ht : t ≤ n) (hs : s ≤ n) (h1 : s ≤ k) (h2 : s ≤ n - t) :
    ∃ r, (K76.rows n (n * (n - 1) / 2)).find? (fun r => decide (s ≤ ((K76.held n (K76.plays r (K76.plays gs (K76.fall n)))).getD k []).getD t 0)) = some r ∧ r.length = (raising n k t s (K76.plays gs (K76.fall n))).length := by
  have h := List.all_eq_true.mp (List.all_eq_true.mp (List.all_eq_true.mp (List.all_eq_true.mp N.k_raise _ (kn_plays N gs _ kn_fall hg).1) k (List.mem_range.mpr (by omega))) t (List.mem_range.mpr (by omega))) s (List.mem_range.mpr (by omega))
  rw [decide_eq_false (by omega), decide_eq_false (by omega)] at h
  exact find_of h
theorem kn_hinds (N : Known n) {gs : List Nat} {k : Nat} (hg : ∀ g ∈ gs, 1 ≤ g ∧ g < n) (hk : k ≤ n) : (K76.hinds n k (K76.plays gs (K76.fall n))).length = k :=
  eq_of_beq (List.all_eq_true.mp (List.all_eq_true.mp N.k_hind _ (kn_plays N gs _ kn_fall hg).1) k (List.mem_range.mpr (by omega)))
theorem plays_app (gs r o : List Nat) : plays (gs ++ r) o = plays r (plays gs o) := by
  unfold plays
  rw [List.foldl_append]
theorem filter_head {α : Type} {l : List α} {p : α → Bool} {r : α} (h : l.find? p = some r) : (l.filter p)[0]? = some r := by
  rw [← List.head?_eq_getElem?, List.head?_filter]
  exact h
end
end K76
namespace K76
open L2 PySem PySem.Spec PyProof.Rows
theorem beq_dec {α : Type} [BEq α] [LawfulBEq α] [DecidableEq α] (x y : α) : (x == y) = decide (x = y) := by
  by_cases h : x = y
  · rw [h, decide_eq_true rfl]
    exact beq_self_eq_true _
  · rw [decide_eq_false h]
    exact beq_eq_false_iff_ne.mpr h
theorem wipe_set (σ : L2.St) (v : Nat) (y : Option V) : wipe ((wipe σ [v]).set v y) [v] = wipe σ [v] := by
  show ((σ.set v none).set v y).set v none = σ.set v none
  rw [List.set_set, List.set_set]
/-- the rows that pass a test -/
theorem lc_rows {K : PySem.W.Frag} {a D : Addr} {ps : List Addr} {R : List (List Nat)} {c : List Nat → Bool} {v : Nat} {tt : TT} {σ : L2.St} {H : Hp} {Qd : Hp → Prop} (nD : H D = none) (ha : H a = some (.lst (ps.map V.ref))) (hR : RowsH H ps R) (hl : R.length ≤ 1000) (hv : v < σ.length)
    (ht : ∀ (p : Addr) (r : List Nat) (H2 : Hp) (Q : Bool → Hp → Prop), Same H H2 → H2 p = some (.lst (nv r)) → r ∈ R → (∀ H3, Same H2 H3 → Q (c r) H3) → tt ((wipe σ [v]).set v (some (.ref p))) H2 Q)
    (hd : ∀ (qs : List Addr) (H2 : Hp), Same H H2 → H2 D = some (.lst (qs.map V.ref)) → RowsH H2 qs (R.filter c) → Qd H2) :
    ∃ W : Nat → Nat → Hp → Prop, (∃ m, W 0 m (upd H D (.lst []))) ∧ ∀ i m H, W i m H →
      ((Itl K a).stop i H ∧ Qd H) ∨ ((Itl K a).go i H ∧ ∃ Nx : Hp → Prop, (∀ H', Nx H' → ∃ m', m' < m ∧ W (i + 1) m' H') ∧ ∀ x H', (Itl K a).yld i H x H' → gName v x (wipe σ [v]) H' fun σ2 H2 => wipe σ2 [v] = wipe σ [v] ∧ tt σ2 H2 fun b H3 =>
        if b = true then tVar v σ2 H3 fun y H4 => ∃ acc, H4 D = some (.lst acc) ∧ acc.length < sizeLine ∧ Nx (upd H4 D (.lst (acc ++ [y]))) else Nx H3) := by
  refine lc_list (K := K) (a := a) (xs := ps.map V.ref) (fun i H2 => Same H H2 ∧ ∃ qs : List Addr, H2 D = some (.lst (qs.map V.ref)) ∧ RowsH H2 qs ((R.take i).filter c) ∧ ∀ q ∈ qs, q ≠ D) ⟨Same.new nD, [], upd_same, .nil, fun q hq => by cases hq⟩
    (fun i H2 _ hP => SqL.of (hP.1.at ha)) (fun i x H2 hx hP => ?_) (fun H2 hP => ?_)
  · obtain ⟨s2, qs, e2, r2, np⟩ := hP
    obtain ⟨p, hp, rfl⟩ := refs_get hx
    obtain ⟨r, hr, er⟩ := hR.get hp
    refine ⟨wipe_set σ v _, ht p r H2 _ s2 (s2.at er) (List.mem_of_getElem? hr) fun H3 s3 => ?_⟩
    have hi : i < R.length := (List.getElem?_eq_some_iff.mp hr).1
    cases hc : c r with
    | true =>
      refine ifT rfl ⟨.ref p, ?_, _, s3.at e2, ?_, (s2.trans s3).put nD, qs ++ [p], ?_, ?_, ?_⟩
      · rw [List.getElem?_set_self]
        show v < (σ.set v none).length
        rw [List.length_set]
        exact hv
      · have h1 := r2.len
        have h2 := List.length_filter_le c (R.take i)
        rw [List.length_take] at h2
        rw [List.length_map]
        exact small (k := 1000) (by omega)
      · rw [upd_same, List.map_append]
        rfl
      · rw [List.take_add_one, hr, List.filter_append]
        have e : (some r).toList.filter c = [r] := by
          show List.filter c [r] = [r]
          rw [List.filter_cons, if_pos hc]
          rfl
        rw [e]
        refine RowsH.app ?_ (RowsH.put (r2.same s3) np)
        rw [upd_ne (ne_of_none er nD)]
        exact s3.at (s2.at er)
      · intro q hq
        rcases List.mem_append.mp hq with z | z
        · exact np q z
        · have ez := List.mem_singleton.mp z
          rw [ez]
          exact ne_of_none er nD
    | false =>
      refine ifF rfl ⟨s2.trans s3, qs, s3.at e2, ?_, np⟩
      rw [List.take_add_one, hr, List.filter_append]
      have e : (some r).toList.filter c = [] := by
        show List.filter c [r] = []
        rw [List.filter_cons, if_neg (by rw [hc]; exact Bool.false_ne_true)]
        rfl
      rw [e, List.append_nil]
      exact r2.same s3
  · obtain ⟨s2, qs, e2, r2, np⟩ := hP
    rw [List.length_map, hR.len, List.take_length] at r2
    exact hd qs H2 s2 e2 r2
/-- the first of them -/
theorem first_row {H : Hp} {qs : List Addr} {R : List (List Nat)} {c : List Nat → Bool} {r : List Nat} (h : RowsH H qs (R.filter c)) (hf : R.find? c = some r) : ∃ q, qs[0]? = some q ∧ H q = some (.lst (nv r)) := by
  have e := filter_head hf
  have hl := h.len
  have h0 : 0 < (R.filter c).length := (List.getElem?_eq_some_iff.mp e).1
  obtain ⟨q, hq⟩ : ∃ q, qs[0]? = some q := ⟨qs[0]'(by omega), List.getElem?_eq_getElem _⟩
  obtain ⟨l, hl2, hq2⟩ := h.get hq
  rw [e] at hl2
  cases hl2
  exact ⟨q, hq, hq2⟩
def adN : List Str := ["_law_places", "_law_gates_here", "_law_start", "_law_rows_here", "_law_now", "_law_row"]
/-- a row sorts what stands at now -/
def tEnds : TT := fun σ H Q => ∃ (v1 v2 v3 : Option V) (nw p : Addr) (n : Nat) (now r : List Nat), σ = [some (iv n), v1, v2, v3, some (.ref nw), some (.ref p)] ∧ H nw = some (.lst (nv now)) ∧ H p = some (.lst (nv r)) ∧ (∀ x ∈ r, 1 ≤ x ∧ x < now.length) ∧ n ≤ 12 ∧
  ∀ H', Same H H' → Q (plays r now == List.range n) H'
section
variable {P : Program} {w : World} {K : PySem.W.Frag} {mg : Str → Option Value} {base : Heap} {C : Addr}
/-- how many gates sort it -/
def spAdded (K : PySem.W.Frag) : Sp := fun vs H Q _ => ∃ (a st rw : Addr) (n : Nat) (gs o : List Nat) (ps : List Addr) (R : List (List Nat)) (r : List Nat), vs = [iv n, .ref a, .ref st, .ref rw] ∧ SqL K H a (nv gs) ∧ SqL K H st (nv o) ∧ H rw = some (.lst (ps.map V.ref)) ∧ RowsH H ps R ∧ R.length ≤ 1000 ∧
  (∀ q ∈ R, ∀ x ∈ q, 1 ≤ x ∧ x < n) ∧ (∀ x ∈ gs, 1 ≤ x ∧ x < n) ∧ o.length = n ∧ n ≤ 12 ∧ R.find? (fun q => plays q (plays gs o) == List.range n) = some r ∧ ∀ H', Same H H' → Q (iv r.length) H'
theorem c_added (g : Gs K mg) {f : Addr} {fd : FuncData} (D : C8.Def K mg "_law_added" (top 45) f fd) (b : Binds K fd ["_law_places", "_law_gates_here", "_law_start", "_law_rows_here"] []) (cE : C8.Cal P w K mg base 2 "_law_end" (spEnd K) []) (cS : C8.Cal P w K mg base 1 "_law_sorted" spSorted []) :
    C8.Cal P w K mg base 3 "_law_added" (spAdded K) [] := by
  refine C8.cal0 D b .nil (N := adN) (C8.fnScope_by (by decide +kernel)) (fun vs H Q E h => ?_) (fun cdv A outer s H vs Q E hr h => ?_)
  · obtain ⟨a, st, rw, n, gs, o, ps, R, r, rfl, _⟩ := h
    rfl
  · obtain ⟨a, st, rw, n, gs, o, ps, R, r, rfl, ha, hst, hrw, hR, hl, hok, hg, lo, hn, hf, q⟩ := h
    have nd : adN.Nodup := by decide +kernel
    refine ⟨_, pss_cons (ps_set (i := 4) nd rfl (Or.inr rfl) (C8.pe_c cE hr (by decide) (by rfl) (pa_cons (pv 1) (pa_cons (pv 2) pa_nil))))
      (pss_one (ps_ret (pe_callB call_len_seq (by rfl) g.len PySem.boot_len (pa_cons (pe_ix ix_list
        (pe_lc (own := [("_law_row", 5)]) (g := gName 5) (tt := tEnds) (te := tVar 5) rfl nd (pi_list (pv 3)) (blkOk_by (N := adN) (sc := C8.fnScope (top 45)) (by decide +kernel)) (fun _ _ _ _ _ => pg_name (i := 5) nd rfl (Or.inl rfl))
          (fun _ _ _ _ _ => PTs.imp (pts_one (pt_cmpR (op_eqD hr.units) (C8.pe_c cE hr (by decide) (by rfl) (pa_cons (pv 5) (pa_cons (pv 4) pa_nil))) (C8.pe_c cS hr (by decide) (by rfl) (pa_cons (pv 0) pa_nil)) (nomark _))) (fun σ H Q h => ?tst))
          (fun _ _ _ _ _ => pv 5)) pe_int (fun _ _ => rfl)) pa_nil)))), ?_⟩
    case tst =>
      obtain ⟨v1, v2, v3, nw, p, n, now, r, rfl, e1, e2, hr, hn, q⟩ := h
      refine ⟨.ref p, rfl, .ref nw, rfl, p, nw, r, now, rfl, SqL.of e2, SqL.of e1, hr, fun x H1 s1 _ ex => ⟨iv n, rfl, n, rfl, hn, fun y H2 s2 _ ey => ?_⟩⟩
      refine ⟨dl (plays r now), dl (List.range n), dp_nv (SqL.of (s2.at ex)), dp_nv (SqL.of ey), dl_shaped _, dl_shaped _, _, rfl, ?_⟩
      rw [dl_eqv, ← beq_dec]
      exact q H2 (s1.trans s2)
    refine ⟨.ref a, rfl, .ref st, rfl, a, st, gs, o, rfl, ha, hst, fun x hx => by rw [lo]; exact hg x hx, fun nw H1 s1 nn e1 => ?_⟩
    refine ⟨.ref rw, rfl, rw, rfl, ⟨_, SqL.of (s1.at hrw)⟩, fun D nD => lc_rows (K := K) (a := rw) (ps := ps) (R := R) (c := fun q => plays q (plays gs o) == List.range n) nD (s1.at hrw) (hR.same s1) hl (show 5 < 6 by decide) (fun p r2 H2 Q2 s2 ep hm hq => ?_) (fun qs H2 s2 eD rq => ?_)⟩
    · exact ⟨_, _, _, nw, p, n, plays gs o, r2, rfl, s2.at e1, ep, fun x hx => by rw [plays_len, lo]; exact hok r2 hm x hx, hn, hq⟩
    · obtain ⟨q0, hq0, eq0⟩ := first_row rq hf
      refine ⟨D, _, 0, .ref q0, rfl, rfl, SqL.of eD, at_of (j := 0) rfl (by rw [List.getElem?_map, hq0]; rfl), q0, _, rfl, .inl (SqL.of eq0), ?_⟩
      rw [nv_len]
      exact q H2 (s1.trans s2)
end
end K76
namespace K76
open L2 PySem PySem.Spec PyProof.Rows
theorem bag_ne_nv {H : Hp} {b c a : Addr} {l : List Nat} (hB : Bag H b c) (ha : H a = some (.lst (nv l))) : a ≠ b := fun z => by
  obtain ⟨x0, x1, x2, cs, h1, _⟩ := hB
  rw [z, h1] at ha
  injection ha with ha
  injection ha with ha
  have q : ([.int x0, .int x1, .int x2, .ref c] : List V)[3]? = (nv l)[3]? := by rw [ha]
  unfold nv at q
  rw [List.getElem?_map] at q
  cases e : l[3]? with
  | none =>
    rw [e] at q
    cases q
  | some y =>
    rw [e] at q
    cases q
theorem bag_ne_refs {H : Hp} {b c a : Addr} {ps : List Addr} (hB : Bag H b c) (ha : H a = some (.lst (ps.map V.ref))) : a ≠ b := fun z => by
  obtain ⟨x0, x1, x2, cs, h1, _⟩ := hB
  rw [z, h1] at ha
  injection ha with ha
  injection ha with ha
  cases ps with
  | nil => cases ha
  | cons p ps => cases ha
theorem bag_ne_ins {H : Hp} {b c a : Addr} {C dx : Addr} {fs : List (Str × V)} (hB : Bag H b c) (ha : H a = some (.ins C dx fs)) : a ≠ b := fun z => by
  obtain ⟨x0, x1, x2, cs, h1, _⟩ := hB
  rw [z, h1] at ha
  cases ha
theorem bag_ne_tup {H : Hp} {b c a : Addr} {xs : List V} (hB : Bag H b c) (ha : H a = some (.tup xs)) : a ≠ b := fun z => by
  obtain ⟨x0, x1, x2, cs, h1, _⟩ := hB
  rw [z, h1] at ha
  cases ha
theorem RowsH.but {H H' : Hp} {b c : Addr} (hB : Bag H b c) (bt : But b H H') : ∀ {ps : List Addr} {m : List (List Nat)}, RowsH H ps m → RowsH H' ps m
  | _, _, .nil => .nil
  | _, _, .cons h t => .cons (bt _ _ (bag_ne_nv hB h) h) (RowsH.but hB bt t)
theorem Tps.but {H H' : Hp} {b c : Addr} (hB : Bag H b c) (bt : But b H H') : ∀ {ts : List Addr} {gs : List Nat}, Tps H ts gs → Tps H' ts gs
  | _, _, .nil => .nil
  | _, _, .cons h t => .cons (bt _ _ (bag_ne_tup hB h) h) (Tps.but hB bt t)
theorem Sch.but {C : Addr} {H H' : Hp} {p b c : Addr} {n : Nat} {gs : List Nat} (hB : Bag H b c) (bt : But b H H') : Sch C H p n gs → Sch C H' p n gs := fun ⟨dx, r, ts, h1, h2, h3, h4⟩ =>
  ⟨dx, r, ts, bt _ _ (bag_ne_ins hB h1) h1, bt _ _ (bag_ne_refs hB h2) h2, h3.but hB bt, h4⟩
def rrN : List Str := ["_law_bag_here", "_law_places", "_law_gates_here", "_law_rows_here", "_law_k", "_law_t", "_law_s", "_law_told", "_law_due", "_law_row"]
/-- a row raises the capacity far enough -/
def tRise : TT := fun σ H Q => ∃ (v0 v3 v7 v8 : Option V) (a p : Addr) (n k t s : Nat) (gs r : List Nat), σ = [v0, some (iv n), some (.ref a), v3, some (iv k), some (iv t), some (iv s), v7, v8, some (.ref p)] ∧ H a = some (.lst (nv gs)) ∧ H p = some (.lst (nv r)) ∧ (∀ x ∈ gs, 1 ≤ x ∧ x < n) ∧ (∀ x ∈ r, 1 ≤ x ∧ x < n) ∧ n ≤ 12 ∧
  gs.length ≤ 100 ∧ r.length ≤ 100 ∧ k ≤ n ∧ t ≤ n ∧ ∀ H', Same H H' → Q (decide (s ≤ ((held n (plays r (plays gs (fall n)))).getD k []).getD t 0)) H'
section
variable {P : Program} {w : World} {K : PySem.W.Frag} {mg : Str → Option Value} {base : Heap} {C : Addr}
def spRR (K : PySem.W.Frag) : Sp := fun vs H Q _ => ∃ (b c a rw : Addr) (n : Nat) (gs : List Nat) (ps : List Addr), vs = [.ref b, iv n, .ref a, .ref rw] ∧ Bag H b c ∧ 2 ≤ n ∧ n ≤ 4 ∧ H a = some (.lst (nv gs)) ∧ (∀ x ∈ gs, 1 ≤ x ∧ x < n) ∧ gs.length ≤ 8 ∧ H rw = some (.lst (ps.map V.ref)) ∧ RowsH H ps (rows n (n * (n - 1) / 2)) ∧
  ∀ H', Bag H' b c → But b H H' → Q (.bl true) H'
theorem c_rr (g : Gs K mg) (U : SU P w K mg base C) {f : Addr} {fd : FuncData} (D : C8.Def K mg "_law_raised_right" (top 46) f fd) (b : Binds K fd ["_law_bag_here", "_law_places", "_law_gates_here", "_law_rows_here"] [])
    (cT : C8.Cal P w K mg base 1 "_law_take" spTake []) (cR : C8.Cal P w K mg base 10 "raised" (spRaise K C) []) (cH : C8.Cal P w K mg base 2 "_law_held" (spHeld K) []) : C8.Cal P w K mg base 11 "_law_raised_right" (spRR K) [] := by
  refine C8.cal0 D b .nil (N := rrN) (C8.fnScope_by (by decide +kernel)) (fun vs H Q E h => ?_) (fun cdv A outer s0 H vs Q E hr h => ?_)
  · obtain ⟨b, c, a, rw, n, gs, ps, rfl, _⟩ := h
    rfl
  · obtain ⟨b, c, a, rw, n, gs, ps, rfl, hB, n2, n4, ha, hg, hl, hrw, hR, q⟩ := h
    have nd : rrN.Nodup := by decide +kernel
    obtain ⟨mc, pG, gG, cr, cm, FG⟩ := U.og
    obtain ⟨fL, fdL, hs1, hs2, FL, bL⟩ := U.ln
    refine ⟨_, pss_cons (ps_asg (pe_tup (pa_cons (C8.pe_c cT hr (by decide) (by rfl) (pa_cons (pv 0) (pa_cons (pe_op op_add (pv 1) pe_int) pa_nil))) (pa_cons (C8.pe_c cT hr (by decide) (by rfl) (pa_cons (pv 0) (pa_cons (pe_op op_add (pv 1) pe_int) pa_nil)))
          (pa_cons (C8.pe_c cT hr (by decide) (by rfl) (pa_cons (pv 0) (pa_cons (pe_op op_add (pv 1) pe_int) pa_nil))) pa_nil))))
        (pg_tup rfl (pgs_cons (pg_name (i := 4) nd rfl (Or.inr rfl)) (pgs_cons (pg_name (i := 5) nd rfl (Or.inr rfl)) (pgs_cons (pg_name (i := 6) nd rfl (Or.inr rfl)) pgs_nil)))))
      (pss_cons (ps_set (i := 7) nd rfl (Or.inl rfl) (C8.pe_c cR hr (by decide) (by rfl) (pa_cons (ClX.pe_cmeth (E := E0) (pe_glob (v := .ref C) (by rfl) U.S.T.mgC rfl) cr cm FG (hr.mono (by decide)) C8.pass0 (pa_cons (pv 1) (pa_cons (pv 2) pa_nil)))
        (pa_cons (pv 4) (pa_cons (pv 5) (pa_cons (pv 6) pa_nil))))))
      (pss_cons (ps_if (PW.pt (pw_or (pt_cmpR op_gt (pv 6) (pv 4) (nomark _)) (pw_or1 (pt_cmpR op_gt (pv 6) (pe_op op_sub (pv 1) (pv 5)) (nomark _))))) (pss_one (ps_ret (pe_cmp (pc_isN (pv 7))))) pss_nil)
      (pss_cons (ps_set (i := 8) nd rfl (Or.inl rfl) (pe_ix ix_list
        (pe_lc (own := [("_law_row", 9)]) (g := gName 9) (tt := tRise) (te := tVar 9) rfl nd (pi_list (pv 3)) (blkOk_by (N := rrN) (sc := C8.fnScope (top 46)) (by decide +kernel)) (fun _ _ _ _ _ => pg_name (i := 9) nd rfl (Or.inl rfl))
          (fun _ _ _ _ _ => PTs.imp (pts_one (pt_cmpR op_ge (pe_ix ix_list (pe_ix ix_list (C8.pe_c cH hr (by decide) (by rfl) (pa_cons (pe_op op_cat (pv 2) (pv 9)) (pa_cons (pv 1) (pa_cons (pe_lst pa_nil) pa_nil)))) (pv 4) (fun _ _ => rfl)) (pv 5) (fun _ _ => rfl)) (pv 6) (nomark _))) (fun σ H Q h => ?tst))
          (fun _ _ _ _ _ => pv 9)) pe_int (fun _ _ => rfl)))
      (pss_one (ps_ret (pe_cmpR op_eq (pe_callB (call_lenO hs1 hs2 FL (hr.mono (by decide)) bL) (by rfl) g.len PySem.boot_len (pa_cons (pv 7) pa_nil))
        (pe_op op_add (pe_callB call_len_seq (by rfl) g.len PySem.boot_len (pa_cons (pv 2) pa_nil)) (pe_callB call_len_seq (by rfl) g.len PySem.boot_len (pa_cons (pv 8) pa_nil))) (nomark _))))))), ?_⟩
    case tst =>
      obtain ⟨v0, v3, v7, v8, a, p, n, k, t, s, gs, r, rfl, ea, ep, hg, hr2, hn, l1, l2, hk, ht, q⟩ := h
      refine ⟨.ref a, rfl, .ref p, rfl, a, p, nv gs, nv r, rfl, rfl, ea, ep, by rw [nv_len, nv_len]; exact small' (k := 400) (by omega), fun cc ncc => ⟨iv n, rfl, Nat.zero_le _, fun e ne => ?_⟩⟩
      have s1 := (Same.new ncc (o := .lst (nv gs ++ nv r))).upd ne (o := .lst [])
      refine ⟨cc, e, n, gs ++ r, rfl, SqL.of ?_, SqL.of upd_same, hn, fun x hx => ?_, fun x us H1 s2 ex ru => ?_⟩
      · rw [upd_ne (ne_of_none upd_same ne), upd_same, nv_app]
      · rcases List.mem_append.mp hx with z | z
        · exact hg x z
        · exact hr2 x z
      rw [plays_app] at ru
      generalize plays r (plays gs (fall n)) = last at ru q
      have hlen : (held n last).length = n + 1 := by
        unfold held
        rw [List.length_map]; rw [List.length_range]
      have hk2 : (held n last)[k]? = some (rowOf n k last) := by
        unfold held
        rw [List.getElem?_map, List.getElem?_range (by omega)]
        rfl
      have lu := ru.len
      obtain ⟨u, hu⟩ : ∃ u, us[k]? = some u := ⟨us[k]'(by omega), List.getElem?_eq_getElem _⟩
      obtain ⟨l, hl, eu⟩ := ru.get hu
      rw [hk2] at hl
      cases hl
      have lr : (rowOf n k last).length = n + 1 := by
        unfold rowOf
        rw [List.length_map]; rw [List.length_range]
      refine ⟨iv k, rfl, x, us.map V.ref, k, .ref u, rfl, rfl, SqL.of ex, at_of rfl (by rw [List.getElem?_map, hu]; rfl), iv t, rfl, u, _, t, _, rfl, rfl, eu, at_nv (j := t) rfl (by omega), iv s, rfl, (atN (rowOf n k last) t : Nat), s, rfl, rfl, decide (s ≤ atN (rowOf n k last) t), ?_, ?_⟩
      · show V.bl (decide _) = V.bl (decide _)
        congr 1
        exact decide_eq_decide.mpr ⟨fun _ => by omega, fun _ => by omega⟩
      · have z := q H1 (s1.trans s2)
        have e1 : (held n last).getD k [] = rowOf n k last := by
          rw [List.getD_eq_getElem?_getD, hk2]
          rfl
        rw [e1] at z
        exact z
    have N := known n2 n4
    refine ⟨.ref b, rfl, iv n, rfl, n, 1, rfl, rfl, b, c, (n : Int) + 1, rfl, hB, by omega, by omega, fun k H1 lk hB1 bt1 => ⟨.ref b, rfl, iv n, rfl, n, 1, rfl, rfl, b, c, (n : Int) + 1, rfl, hB1, by omega, by omega, fun t H2 lt hB2 bt2 =>
      ⟨.ref b, rfl, iv n, rfl, n, 1, rfl, rfl, b, c, (n : Int) + 1, rfl, hB2, by omega, by omega, fun s H3 ls hB3 bt3 => ⟨(by show 3 ≤ sizeLine; decide), fun u nu => ?_⟩⟩⟩⟩
    have bt := (bt1.trans bt2).trans bt3
    have s4 : Same H3 (upd H3 u (.tup [iv k, iv t, iv s])) := Same.new nu
    refine ⟨u, _, rfl, SqT.of upd_same, rfl, _, _, rfl, _, _, rfl, _, _, rfl, rfl, ?_⟩
    have ea := s4.at (bt a _ (bag_ne_nv hB ha) ha)
    have er := s4.at (bt rw _ (bag_ne_refs hB hrw) hrw)
    have rR := (RowsH.but hB bt hR).same s4
    have hB4 := hB3.same s4
    have btA := bt.trans s4.but
    generalize upd H3 u (.tup [iv k, iv t, iv s]) = H4 at s4 ea er rR hB4 btA
    have hh := kn_hinds N (gs := gs) (k := k) hg (by omega)
    refine ⟨rfl, iv n, rfl, .ref a, rfl, a, n, gs, rfl, SqL.of ea, ⟨⟨by omega, by omega⟩, hg, by omega⟩, fun x H5 s5 S5 => ⟨iv k, rfl, iv t, rfl, iv s, rfl, x, n, k, t, s, gs, rfl, S5, by omega, by omega, by omega, by omega, hh, fun hor H6 s6 => ?_, fun hand y H6 s6 S6 => ?_⟩⟩
    · have fin : Q (.bl (decide (V.non = V.non))) H6 := q_t rfl (q H6 (hB4.same (s5.trans s6)) (btA.trans (s5.trans s6).but))
      refine ⟨iv s, rfl, iv k, rfl, s, k, rfl, rfl, decide ((k : Int) < (s : Int)), rfl, ?_⟩
      by_cases hks : k < s
      · exact ifT (decide_eq_true (by omega)) (iteT ⟨.non, rfl, fin⟩)
      refine ifF (decide_eq_false (by omega)) ⟨iv s, rfl, iv n, rfl, iv t, rfl, n, t, rfl, rfl, s, (n : Int) - (t : Int), rfl, rfl, decide ((n : Int) - (t : Int) < (s : Int)), rfl, ?_⟩
      exact ifT (decide_eq_true (by omega)) ⟨.non, rfl, fin⟩
    · refine ⟨iv s, rfl, iv k, rfl, s, k, rfl, rfl, decide ((k : Int) < (s : Int)), rfl, ifF (decide_eq_false (by omega)) ⟨iv s, rfl, iv n, rfl, iv t, rfl, n, t, rfl, rfl, s, (n : Int) - (t : Int), rfl, rfl, decide ((n : Int) - (t : Int) < (s : Int)), rfl, ifF (decide_eq_false (by omega)) ?_⟩⟩
      have s56 := s5.trans s6
      obtain ⟨r, hf, hrl⟩ := kn_raised N (gs := gs) (k := k) (t := t) (s := s) hg (by omega) (by omega) (by omega) hand.1 hand.2
      have ok := kn_ok N
      refine ⟨.ref rw, rfl, rw, rfl, ⟨_, SqL.of (s56.at er)⟩, fun D nD => lc_rows (K := K) (a := rw) (ps := ps) (R := rows n (n * (n - 1) / 2)) (c := fun q => decide (s ≤ ((held n (plays q (plays gs (fall n)))).getD k []).getD t 0)) nD (s56.at er) (rR.same s56) ok.2 (show 9 < 10 by decide) (fun p r2 H7 Q2 s7 ep hm hq => ?_) (fun qs H7 s7 eD rq => ?_)⟩
      · exact ⟨_, _, _, _, a, p, n, k, t, s, gs, r2, rfl, s7.at (s56.at ea), ep, hg, ok.1 r2 hm, by omega, by omega, by have := kn_rl N r2 hm; omega, by omega, by omega, hq⟩
      · obtain ⟨q0, hq0, eq0⟩ := first_row rq hf
        have s57 := s56.trans s7
        refine ⟨D, _, 0, .ref q0, rfl, rfl, SqL.of eD, at_of (j := 0) rfl (by rw [List.getElem?_map, hq0]; rfl), ?_⟩
        have S7 := S6.same s7
        obtain ⟨dx, rr, ts, g1, g2, g3, g4⟩ := id S7
        have lg := g4.2.2
        refine ⟨.ref y, rfl, y, dx, _, rfl, g1, y, n, _, rfl, S7, _, rfl, by omega, .ref a, rfl, a, _, rfl, .inl (SqL.of (s57.at ea)), .ref q0, rfl, q0, _, rfl, .inl (SqL.of eq0), _, _, rfl, rfl, rfl, q_t ?_ (q H7 (hB4.same s57) (btA.trans s57.but))⟩
        rw [nv_len, nv_len, List.length_append, ← hrl]
        rfl
end
end K76
namespace K76
open L2 PySem PySem.Spec PyProof.Rows
def lwN : List Str := ["_law_script", "_law_bag_here", "_law_places", "_law_gates_here", "_law_rows_here", "_law_schedule", "_law_held_here", "_law_due", "_law_falling", "_law_order_here", "_law_told", "_law_step", "_law_row"]
/-- a row has the same capacities -/
def tSameHeld (K : PySem.W.Frag) : TT := fun σ H Q => ∃ (v0 v1 v3 v4 v5 v7 v8 v9 v10 v11 : Option V) (hx p : Addr) (hps : List Addr) (n : Nat) (gs r : List Nat), σ = [v0, v1, some (iv n), v3, v4, v5, some (.ref hx), v7, v8, v9, v10, v11, some (.ref p)] ∧ H hx = some (.lst (hps.map V.ref)) ∧
  Rows K H hps (held n (plays gs (fall n))) ∧ H p = some (.lst (nv r)) ∧ (∀ x ∈ r, 1 ≤ x ∧ x < n) ∧ n ≤ 12 ∧ ∀ H', Same H H' → Q (held n (plays r (fall n)) == held n (plays gs (fall n))) H'
theorem half {n : Nat} (h1 : 2 ≤ n) (h2 : n ≤ 4) : (n : Int) * ((n : Int) - 1) / 2 = ((n * (n - 1) / 2 : Nat) : Int) ∧ n * (n - 1) / 2 ≤ 6 := by
  rcases (by omega : n = 2 ∨ n = 3 ∨ n = 4) with rfl | rfl | rfl <;> decide
theorem place_of {w : Nat} (hw : w < 4) : ∃ n : Nat, ([.int 2, .int 3, .int 4, .int 4] : List V)[w]? = some (iv n) ∧ 2 ≤ n ∧ n ≤ 4 := by
  rcases (by omega : w = 0 ∨ w = 1 ∨ w = 2 ∨ w = 3) with rfl | rfl | rfl | rfl
  · exact ⟨2, rfl, by omega, by omega⟩
  · exact ⟨3, rfl, by omega, by omega⟩
  · exact ⟨4, rfl, by omega, by omega⟩
  · exact ⟨4, rfl, by omega, by omega⟩
section
variable {P : Program} {w : World} {K : PySem.W.Frag} {mg : Str → Option Value} {base : Heap} {C : Addr}
def spLaw (K : PySem.W.Frag) : Sp := fun vs H Q _ => ∃ (sc : Addr) (ns : List Int), vs = [.ref sc] ∧ SqL K H sc (ns.map V.int) ∧ ns.length ≤ 63 ∧ ∀ H', Q (.bl true) H'
theorem f_law (g : Gs K mg) (U : SU P w K mg base C) {f : Addr} {fd : FuncData} (D : C8.Fun K "law" "law" (top 47) f fd)
    (cBg : C8.Cal P w K mg base 1 "_law_bag" (spBag K) []) (cT : C8.Cal P w K mg base 1 "_law_take" spTake []) (cGt : C8.Cal P w K mg base 2 "_law_gates" (spLGates K) []) (cRw : C8.Cal P w K mg base 1 "_law_rows" (spRows K) [])
    (cH : C8.Cal P w K mg base 2 "_law_held" (spHeld K) []) (cSh : C8.Cal P w K mg base 7 "shortest" (spShort C) []) (cS : C8.Cal P w K mg base 1 "_law_sorted" spSorted []) (cO : C8.Cal P w K mg base 2 "_law_order" spLOrder [])
    (cC : C8.Cal P w K mg base 10 "completed" (spCompl C) []) (cA : C8.Cal P w K mg base 3 "_law_added" (spAdded K) []) (cCA : C8.Cal P w K mg base 11 "completed_for_all" (spCompA C) []) (cRR : C8.Cal P w K mg base 11 "_law_raised_right" (spRR K) []) :
    FnOk P w K mg base C8.CX0 12 f fd ["_law_script"] (spLaw K) := by
  refine C8.fn0 D (N := lwN) (C8.fnScope_by (by decide +kernel)) (fun vs H Q E h => ?_) (fun cdv A outer s0 H vs Q E hr h => ?_)
  · obtain ⟨a, ns, rfl, _⟩ := h
    rfl
  · obtain ⟨a, ns, rfl, ha, hns, q⟩ := h
    have nd : lwN.Nodup := by decide +kernel
    obtain ⟨mc, pG, gG, cr, cm, FG⟩ := U.og
    obtain ⟨fL, fdL, hs1, hs2, FL, bL⟩ := U.ln
    refine ⟨_, pss_cons (ps_set (i := 1) nd rfl (Or.inl rfl) (C8.pe_c cBg hr (by decide) (by rfl) (pa_cons (pv 0) pa_nil)))
      (pss_cons (ps_set (i := 2) nd rfl (Or.inr rfl) (pe_ix ix_list (pe_lst (pa_cons pe_int (pa_cons pe_int (pa_cons pe_int (pa_cons pe_int pa_nil))))) (C8.pe_c cT hr (by decide) (by rfl) (pa_cons (pv 1) (pa_cons pe_int pa_nil))) (fun _ _ => rfl)))
      (pss_cons (ps_par (i := 3) (j := 4) rfl nd rfl rfl (by decide) (show (C8.fnScope (top 47)).names.lookup ("_law_gates_here" : Str) = some NameKind.local by decide +kernel) (show (C8.fnScope (top 47)).names.lookup ("_law_rows_here" : Str) = some NameKind.local by decide +kernel)
        (pa_cons (C8.pe_c cGt hr (by decide) (by rfl) (pa_cons (pv 1) (pa_cons (pv 2) (pa_cons pe_int pa_nil)))) (pa_cons (C8.pe_c cRw hr (by decide) (by rfl) (pa_cons (pv 2) (pa_cons (pe_op op_fdiv (pe_op op_mul (pv 2) (pe_op op_sub (pv 2) pe_int)) pe_int) pa_nil))) pa_nil)) (by rfl))
      (pss_cons (ps_asg (pe_tup (pa_cons (ClX.pe_cmeth (E := E0) (pe_glob (v := .ref C) (by rfl) U.S.T.mgC rfl) cr cm FG (hr.mono (by decide)) C8.pass0 (pa_cons (pv 2) (pa_cons (pe_callTy call_list_of (by rfl) g.list (by decide +kernel) (pa_cons (pv 3) pa_nil)) pa_nil)))
          (pa_cons (C8.pe_c cH hr (by decide) (by rfl) (pa_cons (pv 3) (pa_cons (pv 2) (pa_cons (pe_lst pa_nil) pa_nil)))) pa_nil)))
        (pg_tup rfl (pgs_cons (pg_name (i := 5) nd rfl (Or.inl rfl)) (pgs_cons (pg_name (i := 6) nd rfl (Or.inr rfl)) pgs_nil))))
      (pss_cons (ps_set (i := 7) nd rfl (Or.inl rfl) (pe_ix ix_list
        (pe_lc (own := [("_law_row", 12)]) (g := gName 12) (tt := tSameHeld K) (te := tVar 12) rfl nd (pi_list (pv 4)) (blkOk_by (N := lwN) (sc := C8.fnScope (top 47)) (by decide +kernel)) (fun _ _ _ _ _ => pg_name (i := 12) nd rfl (Or.inl rfl))
          (fun _ _ _ _ _ => PTs.imp (pts_one (pt_cmpR (op_eqD hr.units) (C8.pe_c cH hr (by decide) (by rfl) (pa_cons (pv 12) (pa_cons (pv 2) (pa_cons (pe_lst pa_nil) pa_nil)))) (pv 6) (nomark _))) (fun σ H Q h => ?tst))
          (fun _ _ _ _ _ => pv 12)) pe_int (fun _ _ => rfl)))
      (pss_cons (ps_if (pt_cmpR op_ne (pe_callB (call_lenO hs1 hs2 FL (hr.mono (by decide)) bL) (by rfl) g.len PySem.boot_len (pa_cons (C8.pe_c cSh hr (by decide) (by rfl) (pa_cons (pv 5) pa_nil)) pa_nil))
        (pe_callB call_len_seq (by rfl) g.len PySem.boot_len (pa_cons (pv 7) pa_nil)) (nomark _)) pss_never pss_nil)
      (pss_cons (ps_set (i := 8) nd rfl (Or.inl rfl) (pe_revL (C8.pe_c cS hr (by decide) (by rfl) (pa_cons (pv 2) pa_nil))))
      (pss_cons (ps_for PassesOwn.never rfl (pi_list (pe_lst (pa_cons (C8.pe_c cO hr (by decide) (by rfl) (pa_cons (pv 1) (pa_cons (pv 2) pa_nil))) (pa_cons (C8.pe_c cO hr (by decide) (by rfl) (pa_cons (pv 1) (pa_cons (pv 2) pa_nil))) (pa_cons (pv 8) pa_nil))))) (pg_name (i := 9) nd rfl (Or.inl rfl))
        (pss_cons (ps_set (i := 10) nd rfl (Or.inl rfl) (C8.pe_c cC hr (by decide) (by rfl) (pa_cons (pv 5) (pa_cons (pe_callTy call_list_of (by rfl) g.list (by decide +kernel) (pa_cons (pv 9) pa_nil)) pa_nil))))
        (pss_one (ps_if (pt_cmpR op_ne (pe_callB (call_lenO hs1 hs2 FL (hr.mono (by decide)) bL) (by rfl) g.len PySem.boot_len (pa_cons (pv 10) pa_nil))
          (pe_op op_add (pe_callB call_len_seq (by rfl) g.len PySem.boot_len (pa_cons (pv 3) pa_nil)) (C8.pe_c cA hr (by decide) (by rfl) (pa_cons (pv 2) (pa_cons (pv 3) (pa_cons (pv 9) (pa_cons (pv 4) pa_nil)))))) (nomark _)) pss_never pss_nil))))
      (pss_cons (ps_if (pt_cmpR op_ne (pe_callB (call_lenO hs1 hs2 FL (hr.mono (by decide)) bL) (by rfl) g.len PySem.boot_len (pa_cons (C8.pe_c cCA hr (by decide) (by rfl) (pa_cons (pv 5) pa_nil)) pa_nil))
          (pe_op op_add (pe_callB call_len_seq (by rfl) g.len PySem.boot_len (pa_cons (pv 3) pa_nil)) (C8.pe_c cA hr (by decide) (by rfl) (pa_cons (pv 2) (pa_cons (pv 3) (pa_cons (pv 8) (pa_cons (pv 4) pa_nil)))))) (nomark _)) pss_never pss_nil)
      (pss_cons (ps_for PassesOwn.never rfl (pi_range1 (by rfl) g.range (pa_cons pe_int pa_nil)) (pg_name (i := 11) nd rfl (Or.inl rfl))
        (pss_one (ps_if (pt_not (pt_val (C8.pe_c cRR hr (by decide) (by rfl) (pa_cons (pv 1) (pa_cons (pv 2) (pa_cons (pv 3) (pa_cons (pv 4) pa_nil))))))) pss_never pss_nil)))
      (pss_one (ps_ret pe_bl))))))))))), ?_⟩
    case tst =>
      obtain ⟨v0, v1, v3, v4, v5, v7, v8, v9, v10, v11, hx, p, hps, n, gs, r, rfl, ehx, rhx, ep, hr2, hn, q⟩ := h
      refine ⟨.ref p, rfl, iv n, rfl, Nat.zero_le _, fun e ne => ?_⟩
      have s1 : Same H (upd H e (.lst [])) := Same.new ne
      refine ⟨p, e, n, r, rfl, SqL.of (s1.at ep), SqL.of upd_same, hn, hr2, fun x us H1 s2 ex ru => ?_⟩
      have s12 := s1.trans s2
      refine ⟨.ref hx, rfl, dll (held n (plays r (fall n))), dll (held n (plays gs (fall n))), dp_rows (SqL.of ex) ru, dp_rows (SqL.of (s12.at ehx)) (rhx.same s12), dll_shaped _, dll_shaped _, _, rfl, ?_⟩
      rw [dll_eqv, ← beq_dec]
      exact q H1 s12
    refine ⟨.ref a, rfl, a, ns, rfl, ha, hns, fun b c H1 s1 hB1 nb => ?_⟩
    refine ⟨(by show 4 ≤ sizeLine; decide), fun l nl => ?_⟩
    have sl : Same H1 (upd H1 l (.lst [.int 2, .int 3, .int 4, .int 4])) := Same.new nl
    have hB1' := hB1.same sl
    obtain ⟨_, _, _, _, hb1, _⟩ := id hB1
    have lb : l ≠ b := (ne_of_none hb1 nl).symm
    refine ⟨.ref b, rfl, b, c, 4, rfl, hB1', by decide, by decide, fun w0 H2 lw hB2 bt2 => ?_⟩
    obtain ⟨n, hn, n2, n4⟩ := place_of (w := w0) (by omega)
    refine ⟨l, _, w0, iv n, rfl, rfl, SqL.of (bt2 l _ lb upd_same), at_of (j := w0) rfl hn, ?_⟩
    have N := known n2 n4
    have ok := kn_ok N
    have hf2 := half n2 n4
    refine ⟨.ref b, rfl, iv n, rfl, b, c, n, rfl, hB2, n2, n4, fun ga gs H3 hg hl8 hB3 bt3 nga gb ega => ?_⟩
    refine ⟨iv n, rfl, iv n, rfl, iv n, rfl, n, 1, rfl, rfl, n, (n : Int) - 1, rfl, rfl, .inl ⟨by omega, by omega⟩, (n : Int) * ((n : Int) - 1), 2, rfl, rfl, ⟨by decide, by decide⟩, n, n * (n - 1) / 2, ?_, n2, n4, hf2.2, fun rw ps H4 s4 erw rR => ⟨_, _, rfl, ?_⟩⟩
    · show [iv n, V.int ((n : Int) * ((n : Int) - 1) / 2)] = _
      rw [hf2.1]
      rfl
    have hB4 := hB3.same s4
    have ega4 := s4.at ega
    refine ⟨rfl, iv n, rfl, .ref ga, rfl, ga, _, rfl, .inl (SqL.of ega4), fun l2 nl2 => ?_⟩
    have sA : Same H4 (upd H4 l2 (.lst (nv gs))) := Same.new nl2
    refine ⟨l2, n, gs, rfl, SqL.of upd_same, ⟨⟨by omega, by omega⟩, hg, by omega⟩, fun sc H5 sB S5 => ?_⟩
    refine ⟨.ref ga, rfl, iv n, rfl, Nat.zero_le _, fun e ne => ?_⟩
    have sC : Same H5 (upd H5 e (.lst [])) := Same.new ne
    have ega5 := sC.at (sB.at (sA.at ega4))
    refine ⟨ga, e, n, gs, rfl, SqL.of ega5, SqL.of upd_same, by omega, hg, fun hx hps H6 sD ehx rhx => ?_⟩
    refine ⟨(by show 2 ≤ sizeLine; decide), fun u nu => ?_⟩
    have sE : Same H6 (upd H6 u (.tup [.ref sc, .ref hx])) := Same.new nu
    refine ⟨u, _, rfl, SqT.of upd_same, rfl, _, _, rfl, _, _, rfl, rfl, ?_⟩
    have sF := (((sA.trans sB).trans sC).trans sD).trans sE
    have ega7 := sF.at ega4
    have erw7 := sF.at erw
    have rR7 := rR.same sF
    have hB7 := hB4.same sF
    have S7 := S5.same ((sC.trans sD).trans sE)
    have ehx7 := sE.at ehx
    have rhx7 := rhx.same sE
    generalize upd H6 u (.tup [.ref sc, .ref hx]) = H7 at ega7 erw7 rR7 hB7 S7 ehx7 rhx7
    obtain ⟨rd, hfd, hrd⟩ := kn_shortest N (gs := gs) hg
    refine ⟨.ref rw, rfl, rw, rfl, ⟨_, SqL.of erw7⟩, fun D nD => lc_rows (K := K) (a := rw) (ps := ps) (R := rows n (n * (n - 1) / 2)) (c := fun q => held n (plays q (fall n)) == held n (plays gs (fall n))) nD erw7 rR7 ok.2 (show 12 < 13 by decide) (fun p r2 H8 Q2 s8 ep hm hq => ?_) (fun qs H8 s8 eD rq => ?_)⟩
    · exact ⟨_, _, _, _, _, _, _, _, _, _, hx, p, hps, n, gs, r2, rfl, s8.at ehx7, rhx7.same s8, ep, ok.1 r2 hm, by omega, hq⟩
    obtain ⟨du, hdu, edu⟩ := first_row rq hfd
    refine ⟨D, _, 0, .ref du, rfl, rfl, SqL.of eD, at_of (j := 0) rfl (by rw [List.getElem?_map, hdu]; rfl), ?_⟩
    have ega8 := s8.at ega7
    have erw8 := s8.at erw7
    have rR8 := rR7.same s8
    have hB8 := hB7.same s8
    have S8 := S7.same s8
    refine ⟨.ref sc, rfl, sc, n, gs, rfl, S8, fun x ks H9 s9 lk S9 => ?_⟩
    obtain ⟨dx, rr, ts, g1, g2, g3, g4⟩ := id S9
    have lk4 := g4.2.2
    refine ⟨x, dx, _, rfl, g1, x, n, ks, rfl, S9, _, rfl, by omega, .ref du, rfl, du, _, rfl, .inl (SqL.of (s9.at edu)), rfl, _, rfl, iteNS ?_ ?_⟩
    · show V.int _ = V.int _
      rw [nv_len, lk, hrd]
    have ega9 := s9.at ega8
    have erw9 := s9.at erw8
    have rR9 := rR8.same s9
    have hB9 := hB8.same s9
    have SS9 := S8.same s9
    refine ⟨iv n, rfl, n, rfl, by omega, fun so H10 s10 _ eso => ⟨so, _, rfl, SqL.of eso, fun fo nfo => ?_⟩⟩
    rw [nv_rev]
    have s11 : Same H10 (upd H10 fo (.lst (nv (List.range n).reverse))) := Same.new nfo
    have efo : (upd H10 fo (.lst (nv (List.range n).reverse))) fo = some (.lst (nv (fall n))) := upd_same
    have sG := s10.trans s11
    have egaG := sG.at ega9
    have erwG := sG.at erw9
    have rRG := rR9.same sG
    have hBG := hB9.same sG
    have SSG := SS9.same sG
    generalize upd H10 fo (.lst (nv (List.range n).reverse)) = H11 at efo egaG erwG rRG hBG SSG
    refine ⟨.ref b, rfl, iv n, rfl, b, c, n, rfl, hBG, n2, n4, fun a1 o1 H12 p1 hB12 bt12 _ _ _ e1 => ⟨.ref b, rfl, iv n, rfl, b, c, n, rfl, hB12, n2, n4, fun a2 o2 H13 p2 hB13 bt13 _ _ _ e2 => ⟨.ref fo, rfl, (by show 3 ≤ sizeLine; decide), fun ol nol => ?_⟩⟩⟩
    have bt := bt12.trans bt13
    have s14 : Same H13 (upd H13 ol (.lst [.ref a1, .ref a2, .ref fo])) := Same.new nol
    have e1' := s14.at (bt13 a1 _ (bag_ne_nv hB12 e1) e1)
    have e2' := s14.at e2
    have efo' := s14.at (bt fo _ (bag_ne_nv hBG efo) efo)
    have egaH := s14.at (bt ga _ (bag_ne_nv hBG egaG) egaG)
    have erwH := s14.at (bt rw _ (bag_ne_refs hBG erwG) erwG)
    have rRH := (RowsH.but hBG bt rRG).same s14
    have hBH := hB13.same s14
    have SSH := (Sch.but hBG bt SSG).same s14
    have eol : (upd H13 ol (.lst [.ref a1, .ref a2, .ref fo])) ol = some (.lst [.ref a1, .ref a2, .ref fo]) := upd_same
    generalize upd H13 ol (.lst [.ref a1, .ref a2, .ref fo]) = H14 at e1' e2' efo' egaH erwH rRH hBH SSH eol
    refine ⟨ol, rfl, ⟨_, SqL.of eol⟩, for_list (K := K) (a := ol) (xs := [.ref a1, .ref a2, .ref fo]) (fun i σ H15 => ∃ v9 v10, σ = [some (.ref a), some (.ref b), some (iv n), some (.ref ga), some (.ref rw), some (.ref sc), some (.ref hx), some (.ref du), some (.ref fo), v9, v10, none, none] ∧ Same H14 H15)
      ⟨none, none, rfl, Same.refl _⟩ (fun i σ H15 _ hP => ?_) (fun i x σ H15 hx1 hP => ?_) (fun σ H15 hP => ?_)⟩
    · obtain ⟨_, _, _, s15⟩ := hP
      exact SqL.of (s15.at eol)
    · obtain ⟨v9, v10, eσ, s15⟩ := hP
      subst eσ
      obtain ⟨ao, oo, rfl, eao, poo⟩ : ∃ (ao : Addr) (oo : List Nat), x = .ref ao ∧ H14 ao = some (.lst (nv oo)) ∧ oo.Perm (List.range n) := by
        match i, hx1 with
        | 0, h =>
          cases h
          exact ⟨a1, o1, rfl, e1', p1⟩
        | 1, h =>
          cases h
          exact ⟨a2, o2, rfl, e2', p2⟩
        | 2, h =>
          cases h
          exact ⟨fo, fall n, rfl, efo', fall_perm n⟩
      obtain ⟨r3, hf3, hr3⟩ := kn_sorted N (gs := gs) poo hg
      refine ⟨.ref sc, rfl, .ref ao, rfl, ao, _, rfl, .inl (SqL.of (s15.at eao)), fun l3 nl3 => ?_⟩
      have s16 := s15.upd nl3 (o := .lst (nv oo))
      refine ⟨sc, l3, n, gs, oo, rfl, SSH.same s16, upd_same, poo, by omega, fun y H17 s17 S17 => ?_⟩
      have s18 := s16.trans s17
      obtain ⟨dx3, rr3, ts3, j1, j2, j3, j4⟩ := id S17
      have lj := j4.2.2
      refine ⟨.ref y, rfl, y, dx3, _, rfl, j1, y, n, _, rfl, S17, _, rfl, by omega, .ref ga, rfl, ga, _, rfl, .inl (SqL.of (s18.at egaH)), iv n, rfl, .ref ga, rfl, .ref ao, rfl, .ref rw, rfl, ga, ao, rw, n, gs, oo, ps, _, r3, rfl, SqL.of (s18.at egaH), SqL.of (s18.at eao), s18.at erwH, rRH.same s18, ok.2, ok.1, hg,
        by rw [poo.length_eq, List.length_range], by omega, hf3, fun H19 s19 => ⟨_, _, rfl, rfl, rfl, _, rfl, iteNS ?_ ⟨_, _, rfl, s18.trans s19⟩⟩⟩
      show V.int _ = V.int _
      rw [nv_len, List.length_append, ← hr3]
      rfl
    · obtain ⟨v9, v10, eσ, s15⟩ := hP
      subst eσ
      obtain ⟨r3, hf3, hr3⟩ := kn_sorted N (gs := gs) (fall_perm n) hg
      refine ⟨.ref sc, rfl, sc, n, gs, rfl, SSH.same s15, by omega, fun y H17 s17 S17 => ?_⟩
      have s18 := s15.trans s17
      obtain ⟨dx3, rr3, ts3, j1, j2, j3, j4⟩ := id S17
      have lj := j4.2.2
      refine ⟨y, dx3, _, rfl, j1, y, n, _, rfl, S17, _, rfl, by omega, .ref ga, rfl, ga, _, rfl, .inl (SqL.of (s18.at egaH)), iv n, rfl, .ref ga, rfl, .ref fo, rfl, .ref rw, rfl, ga, fo, rw, n, gs, fall n, ps, _, r3, rfl, SqL.of (s18.at egaH), SqL.of (s18.at efo'), s18.at erwH, rRH.same s18, ok.2, ok.1, hg,
        fall_len n, by omega, hf3, fun H19 s19 => ⟨_, _, rfl, rfl, rfl, _, rfl, iteNS ?_ ?_⟩⟩
      · show V.int _ = V.int _
        rw [nv_len, List.length_append, ← hr3]
        rfl
      have s20 := s18.trans s19
      refine ⟨4, rfl, by decide, by decide, ?_⟩
      refine for_range (lo := 0) (n := (4 : Int).toNat) (fun i σ H21 => ∃ v9 v10 v11, σ = [some (.ref a), some (.ref b), some (iv n), some (.ref ga), some (.ref rw), some (.ref sc), some (.ref hx), some (.ref du), some (.ref fo), v9, v10, v11, none] ∧ Bag H21 b c ∧ H21 ga = some (.lst (nv gs)) ∧ H21 rw = some (.lst (ps.map V.ref)) ∧ RowsH H21 ps (rows n (n * (n - 1) / 2)))
        ⟨v9, v10, none, rfl, hBH.same s20, s20.at egaH, s20.at erwH, rRH.same s20⟩ (fun i σ H21 hi hP => ?_) (fun σ H21 hP => ?_)
      · obtain ⟨v9, v10, v11, eσ, hB21, ega21, erw21, rR21⟩ := hP
        subst eσ
        refine ⟨.ref b, rfl, iv n, rfl, .ref ga, rfl, .ref rw, rfl, b, c, ga, rw, n, gs, ps, rfl, hB21, n2, n4, ega21, hg, hl8, erw21, rR21, fun H22 hB22 bt22 => ⟨true, rfl, iteF ⟨_, _, _, rfl, hB22, bt22 _ _ (bag_ne_nv hB21 ega21) ega21, bt22 _ _ (bag_ne_refs hB21 erw21) erw21, RowsH.but hB21 bt22 rR21⟩⟩⟩
      · exact q H21
end
end K76
namespace K76
open L2 PySem PySem.Spec PyProof.Rows
/-! ### what the top has left -/
theorem all_mk {l : PySem.W.OpenLaw} {w : World} {K : PySem.W.Frag} {h : Heap} {mg : Str → Option Value} {fa : Addr} {C f12 f13 f14 f15 f16 f21 f22 f23 f28 f29 f30 f31 f32 f33 f34 f36 f37 f38 f39 f40 f41 f42 f43 f44 f45 f46 f47 D24a T24 f24 D25a T25 f25 D26a T26 f26 fm0 fm3 fm4 fm6 fm11 fm16 pP fm2 pG Dog fm1 : Addr} (X : K.In h) (G : h.Ns mainGlobals mg) (hfa : mg "law" = some (.ref fa))
    {od12 an12 od13 an13 od14 an14 od15 an15 od16 an16 od21 an21 od22 an22 od23 an23 od28 an28 od29 an29 od30 an30 od31 an31 od32 an32 od33 an33 od34 an34 od36 an36 od37 an37 od38 an38 od39 an39 od40 an40 od41 an41 od42 an42 od43 an43 od44 an44 od45 an45 od46 an46 od47 an47 od24 an24 td24 od25 an25 td25 od26 an26 td26 odm0 anm0 odm3 anm3 odm4 anm4 odm6 anm6 odm11 anm11 odm16 anm16 odm2 anm2 odm1 anm1 : Option Addr} {sl12 sl13 sl14 sl15 sl16 sl21 sl22 sl23 sl28 sl29 sl30 sl31 sl32 sl33 sl34 sl36 sl37 sl38 sl39 sl40 sl41 sl42 sl43 sl44 sl45 sl46 sl47 sl24 ts24 sl25 ts25 sl26 ts26 slm0 slm3 slm4 slm6 slm11 slm16 slm2 slm1 : Array (Option Value)} {oc12 dc12 pm12 cd12 ct12 kV12 oc13 dc13 pm13 cd13 ct13 kV13 oc14 dc14 pm14 cd14 ct14 kV14 oc15 dc15 pm15 cd15 ct15 kV15 oc16 dc16 pm16 cd16 ct16 kV16 oc21 dc21 pm21 cd21 ct21 kV21 oc22 dc22 pm22 cd22 ct22 kV22 oc23 dc23 pm23 cd23 ct23 kV23 oc28 dc28 pm28 cd28 ct28 kV28 oc29 dc29 pm29 cd29 ct29 kV29 oc30 dc30 pm30 cd30 ct30 kV30 oc31 dc31 pm31 cd31 ct31 kV31 oc32 dc32 pm32 cd32 ct32 kV32 oc33 dc33 pm33 cd33 ct33 kV33 oc34 dc34 pm34 cd34 ct34 kV34 oc36 dc36 pm36 cd36 ct36 kV36 oc37 dc37 pm37 cd37 ct37 kV37 oc38 dc38 pm38 cd38 ct38 kV38 oc39 dc39 pm39 cd39 ct39 kV39 oc40 dc40 pm40 cd40 ct40 kV40 oc41 dc41 pm41 cd41 ct41 kV41 oc42 dc42 pm42 cd42 ct42 kV42 oc43 dc43 pm43 cd43 ct43 kV43 oc44 dc44 pm44 cd44 ct44 kV44 oc45 dc45 pm45 cd45 ct45 kV45 oc46 dc46 pm46 cd46 ct46 kV46 oc47 dc47 pm47 cd47 ct47 kV47 oc24 dc24 pm24 cd24 ct24 oc25 dc25 pm25 cd25 ct25 oc26 dc26 pm26 cd26 ct26 ocm0 dcm0 pmm0 cdm0 ctm0 kVm0 ocm3 dcm3 pmm3 cdm3 ctm3 kVm3 ocm4 dcm4 pmm4 cdm4 ctm4 kVm4 ocm6 dcm6 pmm6 cdm6 ctm6 kVm6 ocm11 dcm11 pmm11 cdm11 ctm11 kVm11 ocm16 dcm16 pmm16 cdm16 ctm16 kVm16 ocm2 dcm2 pmm2 cdm2 ctm2 kVm2 ocm1 dcm1 pmm1 cdm1 ctm1 : Value} {restP restG : List Value} {tk1 tk2 tk3 tog : Tok} {tn24 tn25 tn26 : Nat}
    (aC : PySem.W.nsIn K mainGlobals "Schedule" = some (some (.ref C)))
    (a12 : PySem.W.nsIn K mainGlobals "is_integer" = some (some (.ref f12)))
    (l12 : K.lookup f12 = some ⟨oc12, od12, .func (PySem.W.fnOf "is_integer" "is_integer" (C8.fnArgs (top 12)) (C8.fnBody (top 12)) (C8.fnScope (top 12)) .none kV12 dc12 pm12 an12 cd12 ct12), sl12⟩)
    (c12 : PySem.W.codeIn K cd12 "is_integer" = true)
    (k12 : PySem.W.keepIn K (.ref f12) = true)
    (a13 : PySem.W.nsIn K mainGlobals "is_between" = some (some (.ref f13)))
    (l13 : K.lookup f13 = some ⟨oc13, od13, .func (PySem.W.fnOf "is_between" "is_between" (C8.fnArgs (top 13)) (C8.fnBody (top 13)) (C8.fnScope (top 13)) .none kV13 dc13 pm13 an13 cd13 ct13), sl13⟩)
    (c13 : PySem.W.codeIn K cd13 "is_between" = true)
    (k13 : PySem.W.keepIn K (.ref f13) = true)
    (a14 : PySem.W.nsIn K mainGlobals "is_price" = some (some (.ref f14)))
    (l14 : K.lookup f14 = some ⟨oc14, od14, .func (PySem.W.fnOf "is_price" "is_price" (C8.fnArgs (top 14)) (C8.fnBody (top 14)) (C8.fnScope (top 14)) .none kV14 dc14 pm14 an14 cd14 ct14), sl14⟩)
    (c14 : PySem.W.codeIn K cd14 "is_price" = true)
    (k14 : PySem.W.keepIn K (.ref f14) = true)
    (a15 : PySem.W.nsIn K mainGlobals "is_order" = some (some (.ref f15)))
    (l15 : K.lookup f15 = some ⟨oc15, od15, .func (PySem.W.fnOf "is_order" "is_order" (C8.fnArgs (top 15)) (C8.fnBody (top 15)) (C8.fnScope (top 15)) .none kV15 dc15 pm15 an15 cd15 ct15), sl15⟩)
    (c15 : PySem.W.codeIn K cd15 "is_order" = true)
    (k15 : PySem.W.keepIn K (.ref f15) = true)
    (a16 : PySem.W.nsIn K mainGlobals "is_comparison" = some (some (.ref f16)))
    (l16 : K.lookup f16 = some ⟨oc16, od16, .func (PySem.W.fnOf "is_comparison" "is_comparison" (C8.fnArgs (top 16)) (C8.fnBody (top 16)) (C8.fnScope (top 16)) .none kV16 dc16 pm16 an16 cd16 ct16), sl16⟩)
    (c16 : PySem.W.codeIn K cd16 "is_comparison" = true)
    (k16 : PySem.W.keepIn K (.ref f16) = true)
    (a21 : PySem.W.nsIn K mainGlobals "need_play" = some (some (.ref f21)))
    (l21 : K.lookup f21 = some ⟨oc21, od21, .func (PySem.W.fnOf "need_play" "need_play" (C8.fnArgs (top 21)) (C8.fnBody (top 21)) (C8.fnScope (top 21)) .none kV21 dc21 pm21 an21 cd21 ct21), sl21⟩)
    (c21 : PySem.W.codeIn K cd21 "need_play" = true)
    (k21 : PySem.W.keepIn K (.ref f21) = true)
    (a22 : PySem.W.nsIn K mainGlobals "is_exchanged" = some (some (.ref f22)))
    (l22 : K.lookup f22 = some ⟨oc22, od22, .func (PySem.W.fnOf "is_exchanged" "is_exchanged" (C8.fnArgs (top 22)) (C8.fnBody (top 22)) (C8.fnScope (top 22)) .none kV22 dc22 pm22 an22 cd22 ct22), sl22⟩)
    (c22 : PySem.W.codeIn K cd22 "is_exchanged" = true)
    (k22 : PySem.W.keepIn K (.ref f22) = true)
    (a23 : PySem.W.nsIn K mainGlobals "exchange" = some (some (.ref f23)))
    (l23 : K.lookup f23 = some ⟨oc23, od23, .func (PySem.W.fnOf "exchange" "exchange" (C8.fnArgs (top 23)) (C8.fnBody (top 23)) (C8.fnScope (top 23)) .none kV23 dc23 pm23 an23 cd23 ct23), sl23⟩)
    (c23 : PySem.W.codeIn K cd23 "exchange" = true)
    (k23 : PySem.W.keepIn K (.ref f23) = true)
    (a28 : PySem.W.nsIn K mainGlobals "falling_order" = some (some (.ref f28)))
    (l28 : K.lookup f28 = some ⟨oc28, od28, .func (PySem.W.fnOf "falling_order" "falling_order" (C8.fnArgs (top 28)) (C8.fnBody (top 28)) (C8.fnScope (top 28)) .none kV28 dc28 pm28 an28 cd28 ct28), sl28⟩)
    (c28 : PySem.W.codeIn K cd28 "falling_order" = true)
    (k28 : PySem.W.keepIn K (.ref f28) = true)
    (a29 : PySem.W.nsIn K mainGlobals "shortest" = some (some (.ref f29)))
    (l29 : K.lookup f29 = some ⟨oc29, od29, .func (PySem.W.fnOf "shortest" "shortest" (C8.fnArgs (top 29)) (C8.fnBody (top 29)) (C8.fnScope (top 29)) .none kV29 dc29 pm29 an29 cd29 ct29), sl29⟩)
    (c29 : PySem.W.codeIn K cd29 "shortest" = true)
    (k29 : PySem.W.keepIn K (.ref f29) = true)
    (a30 : PySem.W.nsIn K mainGlobals "extended" = some (some (.ref f30)))
    (l30 : K.lookup f30 = some ⟨oc30, od30, .func (PySem.W.fnOf "extended" "extended" (C8.fnArgs (top 30)) (C8.fnBody (top 30)) (C8.fnScope (top 30)) .none kV30 dc30 pm30 an30 cd30 ct30), sl30⟩)
    (c30 : PySem.W.codeIn K cd30 "extended" = true)
    (k30 : PySem.W.keepIn K (.ref f30) = true)
    (a31 : PySem.W.nsIn K mainGlobals "sorting_gates" = some (some (.ref f31)))
    (l31 : K.lookup f31 = some ⟨oc31, od31, .func (PySem.W.fnOf "sorting_gates" "sorting_gates" (C8.fnArgs (top 31)) (C8.fnBody (top 31)) (C8.fnScope (top 31)) .none kV31 dc31 pm31 an31 cd31 ct31), sl31⟩)
    (c31 : PySem.W.codeIn K cd31 "sorting_gates" = true)
    (k31 : PySem.W.keepIn K (.ref f31) = true)
    (a32 : PySem.W.nsIn K mainGlobals "completed" = some (some (.ref f32)))
    (l32 : K.lookup f32 = some ⟨oc32, od32, .func (PySem.W.fnOf "completed" "completed" (C8.fnArgs (top 32)) (C8.fnBody (top 32)) (C8.fnScope (top 32)) .none kV32 dc32 pm32 an32 cd32 ct32), sl32⟩)
    (c32 : PySem.W.codeIn K cd32 "completed" = true)
    (k32 : PySem.W.keepIn K (.ref f32) = true)
    (a33 : PySem.W.nsIn K mainGlobals "completed_for_all" = some (some (.ref f33)))
    (l33 : K.lookup f33 = some ⟨oc33, od33, .func (PySem.W.fnOf "completed_for_all" "completed_for_all" (C8.fnArgs (top 33)) (C8.fnBody (top 33)) (C8.fnScope (top 33)) .none kV33 dc33 pm33 an33 cd33 ct33), sl33⟩)
    (c33 : PySem.W.codeIn K cd33 "completed_for_all" = true)
    (k33 : PySem.W.keepIn K (.ref f33) = true)
    (a34 : PySem.W.nsIn K mainGlobals "raised" = some (some (.ref f34)))
    (l34 : K.lookup f34 = some ⟨oc34, od34, .func (PySem.W.fnOf "raised" "raised" (C8.fnArgs (top 34)) (C8.fnBody (top 34)) (C8.fnScope (top 34)) .none kV34 dc34 pm34 an34 cd34 ct34), sl34⟩)
    (c34 : PySem.W.codeIn K cd34 "raised" = true)
    (k34 : PySem.W.keepIn K (.ref f34) = true)
    (a36 : PySem.W.nsIn K mainGlobals "_law_bag" = some (some (.ref f36)))
    (l36 : K.lookup f36 = some ⟨oc36, od36, .func (PySem.W.fnOf "_law_bag" "_law_bag" (C8.fnArgs (top 36)) (C8.fnBody (top 36)) (C8.fnScope (top 36)) .none kV36 dc36 pm36 an36 cd36 ct36), sl36⟩)
    (c36 : PySem.W.codeIn K cd36 "_law_bag" = true)
    (k36 : PySem.W.keepIn K (.ref f36) = true)
    (a37 : PySem.W.nsIn K mainGlobals "_law_take" = some (some (.ref f37)))
    (l37 : K.lookup f37 = some ⟨oc37, od37, .func (PySem.W.fnOf "_law_take" "_law_take" (C8.fnArgs (top 37)) (C8.fnBody (top 37)) (C8.fnScope (top 37)) .none kV37 dc37 pm37 an37 cd37 ct37), sl37⟩)
    (c37 : PySem.W.codeIn K cd37 "_law_take" = true)
    (k37 : PySem.W.keepIn K (.ref f37) = true)
    (a38 : PySem.W.nsIn K mainGlobals "_law_gates" = some (some (.ref f38)))
    (l38 : K.lookup f38 = some ⟨oc38, od38, .func (PySem.W.fnOf "_law_gates" "_law_gates" (C8.fnArgs (top 38)) (C8.fnBody (top 38)) (C8.fnScope (top 38)) .none kV38 dc38 pm38 an38 cd38 ct38), sl38⟩)
    (c38 : PySem.W.codeIn K cd38 "_law_gates" = true)
    (k38 : PySem.W.keepIn K (.ref f38) = true)
    (a39 : PySem.W.nsIn K mainGlobals "_law_order" = some (some (.ref f39)))
    (l39 : K.lookup f39 = some ⟨oc39, od39, .func (PySem.W.fnOf "_law_order" "_law_order" (C8.fnArgs (top 39)) (C8.fnBody (top 39)) (C8.fnScope (top 39)) .none kV39 dc39 pm39 an39 cd39 ct39), sl39⟩)
    (c39 : PySem.W.codeIn K cd39 "_law_order" = true)
    (k39 : PySem.W.keepIn K (.ref f39) = true)
    (a40 : PySem.W.nsIn K mainGlobals "_law_play" = some (some (.ref f40)))
    (l40 : K.lookup f40 = some ⟨oc40, od40, .func (PySem.W.fnOf "_law_play" "_law_play" (C8.fnArgs (top 40)) (C8.fnBody (top 40)) (C8.fnScope (top 40)) .none kV40 dc40 pm40 an40 cd40 ct40), sl40⟩)
    (c40 : PySem.W.codeIn K cd40 "_law_play" = true)
    (k40 : PySem.W.keepIn K (.ref f40) = true)
    (a41 : PySem.W.nsIn K mainGlobals "_law_held" = some (some (.ref f41)))
    (l41 : K.lookup f41 = some ⟨oc41, od41, .func (PySem.W.fnOf "_law_held" "_law_held" (C8.fnArgs (top 41)) (C8.fnBody (top 41)) (C8.fnScope (top 41)) .none kV41 dc41 pm41 an41 cd41 ct41), sl41⟩)
    (c41 : PySem.W.codeIn K cd41 "_law_held" = true)
    (k41 : PySem.W.keepIn K (.ref f41) = true)
    (a42 : PySem.W.nsIn K mainGlobals "_law_sorted" = some (some (.ref f42)))
    (l42 : K.lookup f42 = some ⟨oc42, od42, .func (PySem.W.fnOf "_law_sorted" "_law_sorted" (C8.fnArgs (top 42)) (C8.fnBody (top 42)) (C8.fnScope (top 42)) .none kV42 dc42 pm42 an42 cd42 ct42), sl42⟩)
    (c42 : PySem.W.codeIn K cd42 "_law_sorted" = true)
    (k42 : PySem.W.keepIn K (.ref f42) = true)
    (a43 : PySem.W.nsIn K mainGlobals "_law_rows" = some (some (.ref f43)))
    (l43 : K.lookup f43 = some ⟨oc43, od43, .func (PySem.W.fnOf "_law_rows" "_law_rows" (C8.fnArgs (top 43)) (C8.fnBody (top 43)) (C8.fnScope (top 43)) .none kV43 dc43 pm43 an43 cd43 ct43), sl43⟩)
    (c43 : PySem.W.codeIn K cd43 "_law_rows" = true)
    (k43 : PySem.W.keepIn K (.ref f43) = true)
    (a44 : PySem.W.nsIn K mainGlobals "_law_end" = some (some (.ref f44)))
    (l44 : K.lookup f44 = some ⟨oc44, od44, .func (PySem.W.fnOf "_law_end" "_law_end" (C8.fnArgs (top 44)) (C8.fnBody (top 44)) (C8.fnScope (top 44)) .none kV44 dc44 pm44 an44 cd44 ct44), sl44⟩)
    (c44 : PySem.W.codeIn K cd44 "_law_end" = true)
    (k44 : PySem.W.keepIn K (.ref f44) = true)
    (a45 : PySem.W.nsIn K mainGlobals "_law_added" = some (some (.ref f45)))
    (l45 : K.lookup f45 = some ⟨oc45, od45, .func (PySem.W.fnOf "_law_added" "_law_added" (C8.fnArgs (top 45)) (C8.fnBody (top 45)) (C8.fnScope (top 45)) .none kV45 dc45 pm45 an45 cd45 ct45), sl45⟩)
    (c45 : PySem.W.codeIn K cd45 "_law_added" = true)
    (k45 : PySem.W.keepIn K (.ref f45) = true)
    (a46 : PySem.W.nsIn K mainGlobals "_law_raised_right" = some (some (.ref f46)))
    (l46 : K.lookup f46 = some ⟨oc46, od46, .func (PySem.W.fnOf "_law_raised_right" "_law_raised_right" (C8.fnArgs (top 46)) (C8.fnBody (top 46)) (C8.fnScope (top 46)) .none kV46 dc46 pm46 an46 cd46 ct46), sl46⟩)
    (c46 : PySem.W.codeIn K cd46 "_law_raised_right" = true)
    (k46 : PySem.W.keepIn K (.ref f46) = true)
    (a47 : PySem.W.nsIn K mainGlobals "law" = some (some (.ref f47)))
    (l47 : K.lookup f47 = some ⟨oc47, od47, .func (PySem.W.fnOf "law" "law" (C8.fnArgs (top 47)) (C8.fnBody (top 47)) (C8.fnScope (top 47)) .none kV47 dc47 pm47 an47 cd47 ct47), sl47⟩)
    (c47 : PySem.W.codeIn K cd47 "law" = true)
    (k47 : PySem.W.keepIn K (.ref f47) = true)
    (a24 : PySem.W.nsIn K mainGlobals "orders_after" = some (some (.ref f24)))
    (l24 : K.lookup f24 = some ⟨oc24, od24, .func (PySem.W.fnOf "orders_after" "orders_after" (C8.fnArgs (top 24)) (C8.fnBody (top 24)) (C8.fnScope (top 24)) .none (.ref D24a) dc24 pm24 an24 cd24 ct24), sl24⟩)
    (c24 : PySem.W.codeIn K cd24 "orders_after" = true)
    (k24 : PySem.W.keepIn K (.ref f24) = true)
    (w24 : PySem.W.nsIn K D24a "missed" = some (some (.ref T24)))
    (t24 : K.lookup T24 = some ⟨.type "tuple", td24, .seq #[] tn24, ts24⟩)
    (a25 : PySem.W.nsIn K mainGlobals "play" = some (some (.ref f25)))
    (l25 : K.lookup f25 = some ⟨oc25, od25, .func (PySem.W.fnOf "play" "play" (C8.fnArgs (top 25)) (C8.fnBody (top 25)) (C8.fnScope (top 25)) .none (.ref D25a) dc25 pm25 an25 cd25 ct25), sl25⟩)
    (c25 : PySem.W.codeIn K cd25 "play" = true)
    (k25 : PySem.W.keepIn K (.ref f25) = true)
    (w25 : PySem.W.nsIn K D25a "missed" = some (some (.ref T25)))
    (t25 : K.lookup T25 = some ⟨.type "tuple", td25, .seq #[] tn25, ts25⟩)
    (a26 : PySem.W.nsIn K mainGlobals "exchanges" = some (some (.ref f26)))
    (l26 : K.lookup f26 = some ⟨oc26, od26, .func (PySem.W.fnOf "exchanges" "exchanges" (C8.fnArgs (top 26)) (C8.fnBody (top 26)) (C8.fnScope (top 26)) .none (.ref D26a) dc26 pm26 an26 cd26 ct26), sl26⟩)
    (c26 : PySem.W.codeIn K cd26 "exchanges" = true)
    (k26 : PySem.W.keepIn K (.ref f26) = true)
    (w26 : PySem.W.nsIn K D26a "missed" = some (some (.ref T26)))
    (t26 : K.lookup T26 = some ⟨.type "tuple", td26, .seq #[] tn26, ts26⟩)
    (am0 : PySem.W.findIn K (.ref C) "__init__" = some (some (.ref fm0)))
    (im0 : PySem.W.isFn K (.ref fm0) = true)
    (lm0 : K.lookup fm0 = some ⟨ocm0, odm0, .func (PySem.W.fnOf "__init__" "Schedule.__init__" (C8.fnArgs (sMeth 0)) (C8.fnBody (sMeth 0)) (C8.fnScope (sMeth 0)) .none kVm0 dcm0 pmm0 anm0 cdm0 ctm0), slm0⟩)
    (cm0 : PySem.W.codeIn K cdm0 "Schedule.__init__" = true)
    (km0 : PySem.W.keepIn K (.ref fm0) = true)
    (am3 : PySem.W.findIn K (.ref C) "comparisons" = some (some (.ref fm3)))
    (im3 : PySem.W.isFn K (.ref fm3) = true)
    (lm3 : K.lookup fm3 = some ⟨ocm3, odm3, .func (PySem.W.fnOf "comparisons" "Schedule.comparisons" (C8.fnArgs (sMeth 3)) (C8.fnBody (sMeth 3)) (C8.fnScope (sMeth 3)) .none kVm3 dcm3 pmm3 anm3 cdm3 ctm3), slm3⟩)
    (cm3 : PySem.W.codeIn K cdm3 "Schedule.comparisons" = true)
    (km3 : PySem.W.keepIn K (.ref fm3) = true)
    (am4 : PySem.W.findIn K (.ref C) "gates" = some (some (.ref fm4)))
    (im4 : PySem.W.isFn K (.ref fm4) = true)
    (lm4 : K.lookup fm4 = some ⟨ocm4, odm4, .func (PySem.W.fnOf "gates" "Schedule.gates" (C8.fnArgs (sMeth 4)) (C8.fnBody (sMeth 4)) (C8.fnScope (sMeth 4)) .none kVm4 dcm4 pmm4 anm4 cdm4 ctm4), slm4⟩)
    (cm4 : PySem.W.codeIn K cdm4 "Schedule.gates" = true)
    (km4 : PySem.W.keepIn K (.ref fm4) = true)
    (am6 : PySem.W.findIn K (.ref C) "with_rows" = some (some (.ref fm6)))
    (im6 : PySem.W.isFn K (.ref fm6) = true)
    (lm6 : K.lookup fm6 = some ⟨ocm6, odm6, .func (PySem.W.fnOf "with_rows" "Schedule.with_rows" (C8.fnArgs (sMeth 6)) (C8.fnBody (sMeth 6)) (C8.fnScope (sMeth 6)) .none kVm6 dcm6 pmm6 anm6 cdm6 ctm6), slm6⟩)
    (cm6 : PySem.W.codeIn K cdm6 "Schedule.with_rows" = true)
    (km6 : PySem.W.keepIn K (.ref fm6) = true)
    (am11 : PySem.W.findIn K (.ref C) "joined" = some (some (.ref fm11)))
    (im11 : PySem.W.isFn K (.ref fm11) = true)
    (lm11 : K.lookup fm11 = some ⟨ocm11, odm11, .func (PySem.W.fnOf "joined" "Schedule.joined" (C8.fnArgs (sMeth 11)) (C8.fnBody (sMeth 11)) (C8.fnScope (sMeth 11)) .none kVm11 dcm11 pmm11 anm11 cdm11 ctm11), slm11⟩)
    (cm11 : PySem.W.codeIn K cdm11 "Schedule.joined" = true)
    (km11 : PySem.W.keepIn K (.ref fm11) = true)
    (am16 : PySem.W.findIn K (.ref C) "__len__" = some (some (.ref fm16)))
    (im16 : PySem.W.isFn K (.ref fm16) = true)
    (lm16 : K.lookup fm16 = some ⟨ocm16, odm16, .func (PySem.W.fnOf "__len__" "Schedule.__len__" (C8.fnArgs (sMeth 16)) (C8.fnBody (sMeth 16)) (C8.fnScope (sMeth 16)) .none kVm16 dcm16 pmm16 anm16 cdm16 ctm16), slm16⟩)
    (cm16 : PySem.W.codeIn K cdm16 "Schedule.__len__" = true)
    (km16 : PySem.W.keepIn K (.ref fm16) = true)
    (apl : PySem.W.findIn K (.ref C) "places" = some (some (.ref pP)))
    (gpl : PySem.W.specialIn K (.ref pP) "__get__" = some (some (.builtin "property.__get__")))
    (tpl : PySem.W.takesIn K (.ref pP) = some true)
    (rpl : PySem.W.recIn K pP "property" = some (.ref fm2 :: restP))
    (lm2 : K.lookup fm2 = some ⟨ocm2, odm2, .func (PySem.W.fnOf "places" "Schedule.places" (C8.fnArgs (sMeth 2)) (C8.fnBody (sMeth 2)) (C8.fnScope (sMeth 2)) .none kVm2 dcm2 pmm2 anm2 cdm2 ctm2), slm2⟩)
    (cm2 : PySem.W.codeIn K cdm2 "Schedule.places" = true)
    (aog : PySem.W.findCls K (.ref C) (.type "type") "of_gates" = some (.get (.builtin "classmethod.__get__") (.ref pG) .none (.ref C)))
    (rog : PySem.W.recIn K pG "classmethod" = some (.ref fm1 :: restG))
    (lm1 : K.lookup fm1 = some ⟨ocm1, odm1, .func (PySem.W.fnOf "of_gates" "Schedule.of_gates" (C8.fnArgs (sMeth 1)) (C8.fnBody (sMeth 1)) (C8.fnScope (sMeth 1)) .none (.ref Dog) dcm1 pmm1 anm1 cdm1 ctm1), slm1⟩)
    (cm1 : PySem.W.codeIn K cdm1 "Schedule.of_gates" = true)
    (iog : PySem.W.fnIn K fm1 = true)
    (kog : PySem.W.keepIn K (.ref fm1) = true)
    (wog : PySem.W.nsIn K Dog "price" = some (some (.int 1 tog)))
    (ro1 : PySem.W.readsIn K C (.type "type") = true)
    (ro2 : PySem.W.specialIn K (.ref C) "__getattribute__" = some (some (.builtin "type.__getattribute__")))
    (pg : PySem.W.plainGet K C Str.empty = true)
    (hd : PySem.W.hasDictIn K C = true)
    (po : PySem.W.plainOver K C = true)
    (sa : PySem.W.findIn K (.ref C) "__setattr__" = some (some (.builtin "object.__setattr__")))
    (mkC : PySem.W.makesIn K C = true)
    (kC : PySem.W.keepIn K (.ref C) = true)
    (nPc : PySem.W.findIn K (.ref C) "place_count" = some none)
    (nRw : PySem.W.findIn K (.ref C) "rows" = some none)
    (ic1 : PySem.W.findIn K (.ref C) "__class__" = some (some (.builtin "object.__class__")))
    (ic2 : PySem.W.specialIn K (.builtin "object.__class__") "__get__" = some (some (.builtin "getset_descriptor.__get__")))
    (ic3 : PySem.W.takesIn K (.builtin "object.__class__") = some true)
    (ic4 : PySem.W.mroIn K C (.type "object") = some true)
    (n1 : PySem.W.nsIn K mainGlobals "MAX_PLACES" = some (some (.int 12 tk1)))
    (n2 : PySem.W.nsIn K mainGlobals "MAX_COMPARISONS" = some (some (.int 400 tk2)))
    (n3 : PySem.W.nsIn K mainGlobals "MAX_PRICE" = some (some (.int 1000000000000000000 tk3)))
    (z_isinstance : PySem.W.nsIn K mainGlobals "isinstance" = some none)
    (z_int : PySem.W.nsIn K mainGlobals "int" = some none)
    (z_bool : PySem.W.nsIn K mainGlobals "bool" = some none)
    (z_list : PySem.W.nsIn K mainGlobals "list" = some none)
    (z_tuple : PySem.W.nsIn K mainGlobals "tuple" = some none)
    (z_len : PySem.W.nsIn K mainGlobals "len" = some none)
    (z_range : PySem.W.nsIn K mainGlobals "range" = some none)
    (z_all : PySem.W.nsIn K mainGlobals "all" = some none)
    (z_sorted : PySem.W.nsIn K mainGlobals "sorted" = some none)
    (z_enumerate : PySem.W.nsIn K mainGlobals "enumerate" = some none)
    (z_abs : PySem.W.nsIn K mainGlobals "abs" = some none) :
    ∃ fd : FuncData, (∀ (s : Shared) (u : Value), BindsTo s fd ⟨[u], []⟩ [("_law_script", u)]) ∧ ∀ base : Heap, K.In base → base.Ns mainGlobals mg → FnOk l.prog w K mg base C8.CX0 12 fa fd ["_law_script"] (spLaw K) := by
  have e := hfa.symm.trans (PySem.W.mg_of X G a47)
  cases e
  have D12 : C8.Def K mg "is_integer" (top 12) f12 _ := ⟨⟨_, _, _, _, _, _, _, _, _, _, rfl, l12, c12⟩, PySem.W.mg_of X G a12, k12⟩
  have b12 : Binds K _ ["thing"] [] := D12.fn.binds rfl fun _ _ _ _ _ _ us hl => match us, hl with | [_], _ => rfl
  have D13 : C8.Def K mg "is_between" (top 13) f13 _ := ⟨⟨_, _, _, _, _, _, _, _, _, _, rfl, l13, c13⟩, PySem.W.mg_of X G a13, k13⟩
  have b13 : Binds K _ ["thing", "low", "high"] [] := D13.fn.binds rfl fun _ _ _ _ _ _ us hl => match us, hl with | [_, _, _], _ => rfl
  have D14 : C8.Def K mg "is_price" (top 14) f14 _ := ⟨⟨_, _, _, _, _, _, _, _, _, _, rfl, l14, c14⟩, PySem.W.mg_of X G a14, k14⟩
  have b14 : Binds K _ ["thing"] [] := D14.fn.binds rfl fun _ _ _ _ _ _ us hl => match us, hl with | [_], _ => rfl
  have D15 : C8.Def K mg "is_order" (top 15) f15 _ := ⟨⟨_, _, _, _, _, _, _, _, _, _, rfl, l15, c15⟩, PySem.W.mg_of X G a15, k15⟩
  have b15 : Binds K _ ["thing", "places"] [] := D15.fn.binds rfl fun _ _ _ _ _ _ us hl => match us, hl with | [_, _], _ => rfl
  have D16 : C8.Def K mg "is_comparison" (top 16) f16 _ := ⟨⟨_, _, _, _, _, _, _, _, _, _, rfl, l16, c16⟩, PySem.W.mg_of X G a16, k16⟩
  have b16 : Binds K _ ["thing", "places"] [] := D16.fn.binds rfl fun _ _ _ _ _ _ us hl => match us, hl with | [_, _], _ => rfl
  have D21 : C8.Def K mg "need_play" (top 21) f21 _ := ⟨⟨_, _, _, _, _, _, _, _, _, _, rfl, l21, c21⟩, PySem.W.mg_of X G a21, k21⟩
  have b21 : Binds K _ ["schedule", "order", "missed"] [] := D21.fn.binds rfl fun _ _ _ _ _ _ us hl => match us, hl with | [_, _, _], _ => rfl
  have D22 : C8.Def K mg "is_exchanged" (top 22) f22 _ := ⟨⟨_, _, _, _, _, _, _, _, _, _, rfl, l22, c22⟩, PySem.W.mg_of X G a22, k22⟩
  have b22 : Binds K _ ["order", "gate"] [] := D22.fn.binds rfl fun _ _ _ _ _ _ us hl => match us, hl with | [_, _], _ => rfl
  have D23 : C8.Def K mg "exchange" (top 23) f23 _ := ⟨⟨_, _, _, _, _, _, _, _, _, _, rfl, l23, c23⟩, PySem.W.mg_of X G a23, k23⟩
  have b23 : Binds K _ ["order", "gate"] [] := D23.fn.binds rfl fun _ _ _ _ _ _ us hl => match us, hl with | [_, _], _ => rfl
  have D28 : C8.Def K mg "falling_order" (top 28) f28 _ := ⟨⟨_, _, _, _, _, _, _, _, _, _, rfl, l28, c28⟩, PySem.W.mg_of X G a28, k28⟩
  have b28 : Binds K _ ["places"] [] := D28.fn.binds rfl fun _ _ _ _ _ _ us hl => match us, hl with | [_], _ => rfl
  have D29 : C8.Def K mg "shortest" (top 29) f29 _ := ⟨⟨_, _, _, _, _, _, _, _, _, _, rfl, l29, c29⟩, PySem.W.mg_of X G a29, k29⟩
  have b29 : Binds K _ ["schedule"] [] := D29.fn.binds rfl fun _ _ _ _ _ _ us hl => match us, hl with | [_], _ => rfl
  have D30 : C8.Def K mg "extended" (top 30) f30 _ := ⟨⟨_, _, _, _, _, _, _, _, _, _, rfl, l30, c30⟩, PySem.W.mg_of X G a30, k30⟩
  have b30 : Binds K _ ["schedule", "gates"] [] := D30.fn.binds rfl fun _ _ _ _ _ _ us hl => match us, hl with | [_, _], _ => rfl
  have D31 : C8.Def K mg "sorting_gates" (top 31) f31 _ := ⟨⟨_, _, _, _, _, _, _, _, _, _, rfl, l31, c31⟩, PySem.W.mg_of X G a31, k31⟩
  have b31 : Binds K _ ["order"] [] := D31.fn.binds rfl fun _ _ _ _ _ _ us hl => match us, hl with | [_], _ => rfl
  have D32 : C8.Def K mg "completed" (top 32) f32 _ := ⟨⟨_, _, _, _, _, _, _, _, _, _, rfl, l32, c32⟩, PySem.W.mg_of X G a32, k32⟩
  have b32 : Binds K _ ["schedule", "order"] [] := D32.fn.binds rfl fun _ _ _ _ _ _ us hl => match us, hl with | [_, _], _ => rfl
  have D33 : C8.Def K mg "completed_for_all" (top 33) f33 _ := ⟨⟨_, _, _, _, _, _, _, _, _, _, rfl, l33, c33⟩, PySem.W.mg_of X G a33, k33⟩
  have b33 : Binds K _ ["schedule"] [] := D33.fn.binds rfl fun _ _ _ _ _ _ us hl => match us, hl with | [_], _ => rfl
  have D34 : C8.Def K mg "raised" (top 34) f34 _ := ⟨⟨_, _, _, _, _, _, _, _, _, _, rfl, l34, c34⟩, PySem.W.mg_of X G a34, k34⟩
  have b34 : Binds K _ ["schedule", "k", "t", "s"] [] := D34.fn.binds rfl fun _ _ _ _ _ _ us hl => match us, hl with | [_, _, _, _], _ => rfl
  have D36 : C8.Def K mg "_law_bag" (top 36) f36 _ := ⟨⟨_, _, _, _, _, _, _, _, _, _, rfl, l36, c36⟩, PySem.W.mg_of X G a36, k36⟩
  have b36 : Binds K _ ["_law_script"] [] := D36.fn.binds rfl fun _ _ _ _ _ _ us hl => match us, hl with | [_], _ => rfl
  have D37 : C8.Def K mg "_law_take" (top 37) f37 _ := ⟨⟨_, _, _, _, _, _, _, _, _, _, rfl, l37, c37⟩, PySem.W.mg_of X G a37, k37⟩
  have b37 : Binds K _ ["_law_bag_here", "_law_many"] [] := D37.fn.binds rfl fun _ _ _ _ _ _ us hl => match us, hl with | [_, _], _ => rfl
  have D38 : C8.Def K mg "_law_gates" (top 38) f38 _ := ⟨⟨_, _, _, _, _, _, _, _, _, _, rfl, l38, c38⟩, PySem.W.mg_of X G a38, k38⟩
  have b38 : Binds K _ ["_law_bag_here", "_law_places", "_law_most"] [] := D38.fn.binds rfl fun _ _ _ _ _ _ us hl => match us, hl with | [_, _, _], _ => rfl
  have D39 : C8.Def K mg "_law_order" (top 39) f39 _ := ⟨⟨_, _, _, _, _, _, _, _, _, _, rfl, l39, c39⟩, PySem.W.mg_of X G a39, k39⟩
  have b39 : Binds K _ ["_law_bag_here", "_law_places"] [] := D39.fn.binds rfl fun _ _ _ _ _ _ us hl => match us, hl with | [_, _], _ => rfl
  have D40 : C8.Def K mg "_law_play" (top 40) f40 _ := ⟨⟨_, _, _, _, _, _, _, _, _, _, rfl, l40, c40⟩, PySem.W.mg_of X G a40, k40⟩
  have b40 : Binds K _ ["_law_gates_here", "_law_order_here", "_law_gone"] [] := D40.fn.binds rfl fun _ _ _ _ _ _ us hl => match us, hl with | [_, _, _], _ => rfl
  have D41 : C8.Def K mg "_law_held" (top 41) f41 _ := ⟨⟨_, _, _, _, _, _, _, _, _, _, rfl, l41, c41⟩, PySem.W.mg_of X G a41, k41⟩
  have b41 : Binds K _ ["_law_gates_here", "_law_places", "_law_gone"] [] := D41.fn.binds rfl fun _ _ _ _ _ _ us hl => match us, hl with | [_, _, _], _ => rfl
  have D42 : C8.Def K mg "_law_sorted" (top 42) f42 _ := ⟨⟨_, _, _, _, _, _, _, _, _, _, rfl, l42, c42⟩, PySem.W.mg_of X G a42, k42⟩
  have b42 : Binds K _ ["_law_places"] [] := D42.fn.binds rfl fun _ _ _ _ _ _ us hl => match us, hl with | [_], _ => rfl
  have D43 : C8.Def K mg "_law_rows" (top 43) f43 _ := ⟨⟨_, _, _, _, _, _, _, _, _, _, rfl, l43, c43⟩, PySem.W.mg_of X G a43, k43⟩
  have b43 : Binds K _ ["_law_places", "_law_many"] [] := D43.fn.binds rfl fun _ _ _ _ _ _ us hl => match us, hl with | [_, _], _ => rfl
  have D44 : C8.Def K mg "_law_end" (top 44) f44 _ := ⟨⟨_, _, _, _, _, _, _, _, _, _, rfl, l44, c44⟩, PySem.W.mg_of X G a44, k44⟩
  have b44 : Binds K _ ["_law_gates_here", "_law_order_here"] [] := D44.fn.binds rfl fun _ _ _ _ _ _ us hl => match us, hl with | [_, _], _ => rfl
  have D45 : C8.Def K mg "_law_added" (top 45) f45 _ := ⟨⟨_, _, _, _, _, _, _, _, _, _, rfl, l45, c45⟩, PySem.W.mg_of X G a45, k45⟩
  have b45 : Binds K _ ["_law_places", "_law_gates_here", "_law_start", "_law_rows_here"] [] := D45.fn.binds rfl fun _ _ _ _ _ _ us hl => match us, hl with | [_, _, _, _], _ => rfl
  have D46 : C8.Def K mg "_law_raised_right" (top 46) f46 _ := ⟨⟨_, _, _, _, _, _, _, _, _, _, rfl, l46, c46⟩, PySem.W.mg_of X G a46, k46⟩
  have b46 : Binds K _ ["_law_bag_here", "_law_places", "_law_gates_here", "_law_rows_here"] [] := D46.fn.binds rfl fun _ _ _ _ _ _ us hl => match us, hl with | [_, _, _, _], _ => rfl
  have D47 : C8.Def K mg "law" (top 47) fa _ := ⟨⟨_, _, _, _, _, _, _, _, _, _, rfl, l47, c47⟩, PySem.W.mg_of X G a47, k47⟩
  have b47 : Binds K _ ["_law_script"] [] := D47.fn.binds rfl fun _ _ _ _ _ _ us hl => match us, hl with | [_], _ => rfl
  have F24 : FunD K "orders_after" "orders_after" (C8.fnArgs (top 24)) (C8.fnBody (top 24)) (C8.fnScope (top 24)) [] [("missed", .ref T24)] f24 _ := ⟨⟨_, _, _, _, _, _, _, _, _, _, rfl, l24, c24, .inl ⟨rfl, rfl⟩, .inr ⟨D24a, rfl, fun q hq => by rw [List.mem_singleton.mp hq]; exact ⟨_, w24, rfl⟩⟩⟩, k24⟩
  have m24 := PySem.W.mg_of X G a24
  have hT24 : ∀ H, SqT K H T24 [] := fun H => .inr ⟨_, #[], tn24, t24, rfl, rfl, Nat.zero_le _, .nil⟩
  have F25 : FunD K "play" "play" (C8.fnArgs (top 25)) (C8.fnBody (top 25)) (C8.fnScope (top 25)) [] [("missed", .ref T25)] f25 _ := ⟨⟨_, _, _, _, _, _, _, _, _, _, rfl, l25, c25, .inl ⟨rfl, rfl⟩, .inr ⟨D25a, rfl, fun q hq => by rw [List.mem_singleton.mp hq]; exact ⟨_, w25, rfl⟩⟩⟩, k25⟩
  have m25 := PySem.W.mg_of X G a25
  have hT25 : ∀ H, SqT K H T25 [] := fun H => .inr ⟨_, #[], tn25, t25, rfl, rfl, Nat.zero_le _, .nil⟩
  have F26 : FunD K "exchanges" "exchanges" (C8.fnArgs (top 26)) (C8.fnBody (top 26)) (C8.fnScope (top 26)) [] [("missed", .ref T26)] f26 _ := ⟨⟨_, _, _, _, _, _, _, _, _, _, rfl, l26, c26, .inl ⟨rfl, rfl⟩, .inr ⟨D26a, rfl, fun q hq => by rw [List.mem_singleton.mp hq]; exact ⟨_, w26, rfl⟩⟩⟩, k26⟩
  have m26 := PySem.W.mg_of X G a26
  have hT26 : ∀ H, SqT K H T26 [] := fun H => .inr ⟨_, #[], tn26, t26, rfl, rfl, Nat.zero_le _, .nil⟩
  have Fm0 : C8.Fun K "__init__" "Schedule.__init__" (sMeth 0) fm0 _ := ⟨_, _, _, _, _, _, _, _, _, _, rfl, lm0, cm0⟩
  have bm0 : Binds K _ ["self", "places", "comparisons"] [] := Fm0.binds rfl fun _ _ _ _ _ _ us hl => match us, hl with | [_, _, _], _ => rfl
  have Mm0 : Meth K C "__init__" fm0 := ⟨am0, im0, km0⟩
  have Fm3 : C8.Fun K "comparisons" "Schedule.comparisons" (sMeth 3) fm3 _ := ⟨_, _, _, _, _, _, _, _, _, _, rfl, lm3, cm3⟩
  have bm3 : Binds K _ ["self"] [] := Fm3.binds rfl fun _ _ _ _ _ _ us hl => match us, hl with | [_], _ => rfl
  have Mm3 : Meth K C "comparisons" fm3 := ⟨am3, im3, km3⟩
  have Fm4 : C8.Fun K "gates" "Schedule.gates" (sMeth 4) fm4 _ := ⟨_, _, _, _, _, _, _, _, _, _, rfl, lm4, cm4⟩
  have bm4 : Binds K _ ["self"] [] := Fm4.binds rfl fun _ _ _ _ _ _ us hl => match us, hl with | [_], _ => rfl
  have Mm4 : Meth K C "gates" fm4 := ⟨am4, im4, km4⟩
  have Fm6 : C8.Fun K "with_rows" "Schedule.with_rows" (sMeth 6) fm6 _ := ⟨_, _, _, _, _, _, _, _, _, _, rfl, lm6, cm6⟩
  have bm6 : Binds K _ ["self", "rows"] [] := Fm6.binds rfl fun _ _ _ _ _ _ us hl => match us, hl with | [_, _], _ => rfl
  have Mm6 : Meth K C "with_rows" fm6 := ⟨am6, im6, km6⟩
  have Fm11 : C8.Fun K "joined" "Schedule.joined" (sMeth 11) fm11 _ := ⟨_, _, _, _, _, _, _, _, _, _, rfl, lm11, cm11⟩
  have bm11 : Binds K _ ["self", "other"] [] := Fm11.binds rfl fun _ _ _ _ _ _ us hl => match us, hl with | [_, _], _ => rfl
  have Mm11 : Meth K C "joined" fm11 := ⟨am11, im11, km11⟩
  have Fm16 : C8.Fun K "__len__" "Schedule.__len__" (sMeth 16) fm16 _ := ⟨_, _, _, _, _, _, _, _, _, _, rfl, lm16, cm16⟩
  have bm16 : Binds K _ ["self"] [] := Fm16.binds rfl fun _ _ _ _ _ _ us hl => match us, hl with | [_], _ => rfl
  have Mm16 : Meth K C "__len__" fm16 := ⟨am16, im16, km16⟩
  have Fm2 : C8.Fun K "places" "Schedule.places" (sMeth 2) fm2 _ := ⟨_, _, _, _, _, _, _, _, _, _, rfl, lm2, cm2⟩
  have bm2 : Binds K _ ["self"] [] := Fm2.binds rfl fun _ _ _ _ _ _ us hl => match us, hl with | [_], _ => rfl
  have Fm1 : FunD K "of_gates" "Schedule.of_gates" (C8.fnArgs (sMeth 1)) (C8.fnBody (sMeth 1)) (C8.fnScope (sMeth 1)) [] [("price", .int 1)] fm1 _ := ⟨⟨_, _, _, _, _, _, _, _, _, _, rfl, lm1, cm1, .inl ⟨rfl, rfl⟩, .inr ⟨Dog, rfl, fun q hq => by rw [List.mem_singleton.mp hq]; exact ⟨_, wog, ⟨tog, rfl⟩⟩⟩⟩, kog⟩
  have g : Gs K mg := ⟨PySem.W.mg_none_of X G z_isinstance, PySem.W.mg_none_of X G z_int, PySem.W.mg_none_of X G z_bool, PySem.W.mg_none_of X G z_list, PySem.W.mg_none_of X G z_tuple, PySem.W.mg_none_of X G z_len, PySem.W.mg_none_of X G z_range, PySem.W.mg_none_of X G z_all, PySem.W.mg_none_of X G z_sorted, PySem.W.mg_none_of X G z_enumerate, PySem.W.mg_none_of X G z_abs, ⟨_, PySem.W.mg_of X G n1, ⟨tk1, rfl⟩⟩, ⟨_, PySem.W.mg_of X G n2, ⟨tk2, rfl⟩⟩, ⟨_, PySem.W.mg_of X G n3, ⟨tk3, rfl⟩⟩⟩
  have mC := PySem.W.mg_of X G aC
  have cl : Cls K C := ⟨pg, hd, po, sa⟩
  have T : ST K mg C := ⟨cl, nPc, nRw, mC⟩
  have ic5 : PySem.W.kitOne K (.ref C) (.ref C) = some true := by
    unfold PySem.W.kitOne
    exact if_pos (beq_self_eq_true (Value.ref C))
  have MK : Mk K C fm0 := ⟨mkC, am0, im0, kC⟩
  refine ⟨PySem.W.fnOf "law" "law" (C8.fnArgs (top 47)) (C8.fnBody (top 47)) (C8.fnScope (top 47)) .none kV47 dc47 pm47 an47 cd47 ct47, fun s v => .of_eq rfl, fun base _ _ => ?_⟩
  have cInt := c_is_integer (P := l.prog) (w := w) (base := base) g D12 b12
  have cBet := c_is_between (P := l.prog) (w := w) (base := base) D13 b13 cInt
  have cPri := c_is_price (P := l.prog) (w := w) (base := base) g D14 b14 cBet
  have cOrd := c_is_order (P := l.prog) (w := w) (base := base) g D15 b15 cBet
  have cCom := c_is_comparison (P := l.prog) (w := w) (base := base) g D16 b16 cBet cPri
  have fI := f_init (P := l.prog) (w := w) (base := base) g T Fm0 cBet cCom
  have mK : C8.Mak l.prog w K mg base 5 "Schedule" C (spInit C) [] := ⟨_, _, _, _, MK, fI, mC, bm0, .nil⟩
  have S : SP l.prog w K mg base C := ⟨T, ⟨cl, ic1, ic2, ic3, ic4, ic5⟩, pP, fm2, _, ⟨apl, gpl, tpl, _, rpl⟩, f_places T Fm2, bm2⟩
  have cC := m_comparisons (P := l.prog) (w := w) (base := base) g T Fm3 bm3 Mm3
  have cG := m_gates (P := l.prog) (w := w) (base := base) T Fm4 bm4 Mm4
  have cW := m_with_rows (P := l.prog) (w := w) (base := base) g T Fm6 bm6 Mm6 mK
  have cJ := m_joined (P := l.prog) (w := w) (base := base) T Fm11 bm11 Mm11 cW
  have U : SU l.prog w K mg base C := ⟨S, mK, cC, cG, cJ, ⟨.type "type", pG, fm1, ⟨ro1, ro2⟩, ⟨aog, ⟨_, rog⟩, iog⟩, r_of_gates Fm1 MK fI bm0⟩, ⟨fm16, _, am16, im16, f_len g T Fm16, bm16⟩⟩
  have cE := c_is_exchanged (P := l.prog) (w := w) (base := base) D22 b22
  have cX := c_exchange (P := l.prog) (w := w) (base := base) D23 b23
  have cN := c_need_play (P := l.prog) (w := w) (base := base) g S D21 b21 cOrd
  have D0 : GD K mg T24 f24 _ := ⟨F24, m24⟩
  have cPl := c_play (P := l.prog) (w := w) (base := base) g F25 m25 D0 cE cX cG cN
  have cEx := c_exchanges (P := l.prog) (w := w) (base := base) g F26 m26 D0 cE cX cG cN
  have cF := c_fall (P := l.prog) (w := w) (base := base) g D28 b28
  have cSh := c_shortest (P := l.prog) (w := w) (base := base) g U hT26 D29 b29 cF cEx
  have cXt := c_extended (P := l.prog) (w := w) (base := base) g U D30 b30
  have cSo := c_sorting (P := l.prog) (w := w) (base := base) g D31 b31 cE cX
  have cCo := c_completed (P := l.prog) (w := w) (base := base) hT25 D32 b32 cXt cSo cPl
  have cCA := c_completedA (P := l.prog) (w := w) (base := base) U D33 b33 cCo cF
  have cR := c_raised (P := l.prog) (w := w) (base := base) g U hT25 D34 b34 cXt cF cPl
  have cBg := c_bag (P := l.prog) (w := w) (base := base) g D36 b36
  have cT := c_take (P := l.prog) (w := w) (base := base) g D37 b37
  have cGt := c_lgates (P := l.prog) (w := w) (base := base) g D38 b38 cT
  have cO := c_lorder (P := l.prog) (w := w) (base := base) g D39 b39 cT
  have cLP := c_lplay (P := l.prog) (w := w) (base := base) g D40 b40
  have cH := c_held (P := l.prog) (w := w) (base := base) g D41 b41 cLP
  have cS := c_sorted (P := l.prog) (w := w) (base := base) g D42 b42
  have cRw := c_rows (P := l.prog) (w := w) (base := base) g D43 b43
  have cEn := c_end (P := l.prog) (w := w) (base := base) D44 b44 cLP
  have cA := c_added (P := l.prog) (w := w) (base := base) g D45 b45 cEn cS
  have cRR := c_rr (P := l.prog) (w := w) (base := base) g U D46 b46 cT cR cH
  exact f_law (P := l.prog) (w := w) (base := base) g U D47.fn cBg cT cGt cRw cH cSh cS cO cCo cA cCA cRR
end K76
open PySem.W PySem PyProof.Rows
set_option maxHeartbeats 0
open_top hd for PySem.Challenge.rw_bearsmisses_k76_whole_none_is_shorter
theorem PySem.Challenge.cw_bearsmisses_k76_whole_none_is_shorter_holds : PySem.Challenge.rw_bearsmisses_k76_whole_none_is_shorter.Holds := by
  refine hd ?_
  k_fill
  refine L2.walk_of (l := PySem.Challenge.rw_bearsmisses_k76_whole_none_is_shorter) (n := 63) (k := 12) (x := "_law_script") (CX := fun _ => C8.CX0) (sp := fun w => K76.spLaw _) rfl (by decide) rfl ⟨rfl, by decide, by decide⟩ (fun w h Y => PySem.W.kIn_of Y) ?F (fun _ _ a ns hl _ hS => ⟨a, ns, rfl, hS, hl, fun _ => rfl⟩) (fun _ _ _ _ _ h => h)
  case F =>
    intro w mg fa h KX G hmg
    refine' K76.all_mk KX G hmg ?aC ?a12 ?l12 ?c12 ?k12 ?a13 ?l13 ?c13 ?k13 ?a14 ?l14 ?c14 ?k14 ?a15 ?l15 ?c15 ?k15 ?a16 ?l16 ?c16 ?k16 ?a21 ?l21 ?c21 ?k21 ?a22 ?l22 ?c22 ?k22 ?a23 ?l23 ?c23 ?k23 ?a28 ?l28 ?c28 ?k28 ?a29 ?l29 ?c29 ?k29 ?a30 ?l30 ?c30 ?k30 ?a31 ?l31 ?c31 ?k31 ?a32 ?l32 ?c32 ?k32 ?a33 ?l33 ?c33 ?k33 ?a34 ?l34 ?c34 ?k34 ?a36 ?l36 ?c36 ?k36 ?a37 ?l37 ?c37 ?k37 ?a38 ?l38 ?c38 ?k38 ?a39 ?l39 ?c39 ?k39 ?a40 ?l40 ?c40 ?k40 ?a41 ?l41 ?c41 ?k41 ?a42 ?l42 ?c42 ?k42 ?a43 ?l43 ?c43 ?k43 ?a44 ?l44 ?c44 ?k44 ?a45 ?l45 ?c45 ?k45 ?a46 ?l46 ?c46 ?k46 ?a47 ?l47 ?c47 ?k47 ?a24 ?l24 ?c24 ?k24 ?w24 ?t24 ?a25 ?l25 ?c25 ?k25 ?w25 ?t25 ?a26 ?l26 ?c26 ?k26 ?w26 ?t26 ?am0 ?im0 ?lm0 ?cm0 ?km0 ?am3 ?im3 ?lm3 ?cm3 ?km3 ?am4 ?im4 ?lm4 ?cm4 ?km4 ?am6 ?im6 ?lm6 ?cm6 ?km6 ?am11 ?im11 ?lm11 ?cm11 ?km11 ?am16 ?im16 ?lm16 ?cm16 ?km16 ?apl ?gpl ?tpl ?rpl ?lm2 ?cm2 ?aog ?rog ?lm1 ?cm1 ?iog ?kog ?wog ?ro1 ?ro2 ?pg ?hd ?po ?sa ?mkC ?kC ?nPc ?nRw ?ic1 ?ic2 ?ic3 ?ic4 ?n1 ?n2 ?n3 ?z_isinstance ?z_int ?z_bool ?z_list ?z_tuple ?z_len ?z_range ?z_all ?z_sorted ?z_enumerate ?z_abs
    (case aC => k_is)
    (case a12 => k_is)
    (case l12 => k_is)
    (case c12 => k_is)
    (case k12 => k_is)
    (case a13 => k_is)
    (case l13 => k_is)
    (case c13 => k_is)
    (case k13 => k_is)
    (case a14 => k_is)
    (case l14 => k_is)
    (case c14 => k_is)
    (case k14 => k_is)
    (case a15 => k_is)
    (case l15 => k_is)
    (case c15 => k_is)
    (case k15 => k_is)
    (case a16 => k_is)
    (case l16 => k_is)
    (case c16 => k_is)
    (case k16 => k_is)
    (case a21 => k_is)
    (case l21 => k_is)
    (case c21 => k_is)
    (case k21 => k_is)
    (case a22 => k_is)
    (case l22 => k_is)
    (case c22 => k_is)
    (case k22 => k_is)
    (case a23 => k_is)
    (case l23 => k_is)
    (case c23 => k_is)
    (case k23 => k_is)
    (case a28 => k_is)
    (case l28 => k_is)
    (case c28 => k_is)
    (case k28 => k_is)
    (case a29 => k_is)
    (case l29 => k_is)
    (case c29 => k_is)
    (case k29 => k_is)
    (case a30 => k_is)
    (case l30 => k_is)
    (case c30 => k_is)
    (case k30 => k_is)
    (case a31 => k_is)
    (case l31 => k_is)
    (case c31 => k_is)
    (case k31 => k_is)
    (case a32 => k_is)
    (case l32 => k_is)
    (case c32 => k_is)
    (case k32 => k_is)
    (case a33 => k_is)
    (case l33 => k_is)
    (case c33 => k_is)
    (case k33 => k_is)
    (case a34 => k_is)
    (case l34 => k_is)
    (case c34 => k_is)
    (case k34 => k_is)
    (case a36 => k_is)
    (case l36 => k_is)
    (case c36 => k_is)
    (case k36 => k_is)
    (case a37 => k_is)
    (case l37 => k_is)
    (case c37 => k_is)
    (case k37 => k_is)
    (case a38 => k_is)
    (case l38 => k_is)
    (case c38 => k_is)
    (case k38 => k_is)
    (case a39 => k_is)
    (case l39 => k_is)
    (case c39 => k_is)
    (case k39 => k_is)
    (case a40 => k_is)
    (case l40 => k_is)
    (case c40 => k_is)
    (case k40 => k_is)
    (case a41 => k_is)
    (case l41 => k_is)
    (case c41 => k_is)
    (case k41 => k_is)
    (case a42 => k_is)
    (case l42 => k_is)
    (case c42 => k_is)
    (case k42 => k_is)
    (case a43 => k_is)
    (case l43 => k_is)
    (case c43 => k_is)
    (case k43 => k_is)
    (case a44 => k_is)
    (case l44 => k_is)
    (case c44 => k_is)
    (case k44 => k_is)
    (case a45 => k_is)
    (case l45 => k_is)
    (case c45 => k_is)
    (case k45 => k_is)
    (case a46 => k_is)
    (case l46 => k_is)
    (case c46 => k_is)
    (case k46 => k_is)
    (case a47 => k_is)
    (case l47 => k_is)
    (case c47 => k_is)
    (case k47 => k_is)
    (case a24 => k_is)
    (case l24 => k_is)
    (case c24 => k_is)
    (case k24 => k_is)
    (case w24 => k_is)
    (case t24 => k_is)
    (case a25 => k_is)
    (case l25 => k_is)
    (case c25 => k_is)
    (case k25 => k_is)
    (case w25 => k_is)
    (case t25 => k_is)
    (case a26 => k_is)
    (case l26 => k_is)
    (case c26 => k_is)
    (case k26 => k_is)
    (case w26 => k_is)
    (case t26 => k_is)
    (case am0 => k_is)
    (case im0 => k_is)
    (case lm0 => k_is)
    (case cm0 => k_is)
    (case km0 => k_is)
    (case am3 => k_is)
    (case im3 => k_is)
    (case lm3 => k_is)
    (case cm3 => k_is)
    (case km3 => k_is)
    (case am4 => k_is)
    (case im4 => k_is)
    (case lm4 => k_is)
    (case cm4 => k_is)
    (case km4 => k_is)
    (case am6 => k_is)
    (case im6 => k_is)
    (case lm6 => k_is)
    (case cm6 => k_is)
    (case km6 => k_is)
    (case am11 => k_is)
    (case im11 => k_is)
    (case lm11 => k_is)
    (case cm11 => k_is)
    (case km11 => k_is)
    (case am16 => k_is)
    (case im16 => k_is)
    (case lm16 => k_is)
    (case cm16 => k_is)
    (case km16 => k_is)
    (case apl => k_is)
    (case gpl => k_is)
    (case tpl => k_is)
    (case rpl => k_is)
    (case lm2 => k_is)
    (case cm2 => k_is)
    (case aog => k_is)
    (case rog => k_is)
    (case lm1 => k_is)
    (case cm1 => k_is)
    (case iog => k_is)
    (case kog => k_is)
    (case wog => k_is)
    (case ro1 => k_is)
    (case ro2 => k_is)
    (case pg => k_is)
    (case hd => k_is)
    (case po => k_is)
    (case sa => k_is)
    (case mkC => k_is)
    (case kC => k_is)
    (case nPc => k_is)
    (case nRw => k_is)
    (case ic1 => k_is)
    (case ic2 => k_is)
    (case ic3 => k_is)
    (case ic4 => k_is)
    (case n1 => k_is)
    (case n2 => k_is)
    (case n3 => k_is)
    (case z_isinstance => k_is)
    (case z_int => k_is)
    (case z_bool => k_is)
    (case z_list => k_is)
    (case z_tuple => k_is)
    (case z_len => k_is)
    (case z_range => k_is)
    (case z_all => k_is)
    (case z_sorted => k_is)
    (case z_enumerate => k_is)
    (case z_abs => k_is)
