import PyProof.Rows.All
import Wide.All
import OpenK.AllK
import Wide.FinOn
import HandS.ForMost
import HandS.Wide
import HandS.Style
import HandS.Gcd
import HandS.Zip
import HandS.Walk
import HandS.TupAny
import HandS.Star
import HandS.SortInts
import HandS.RaiseMore
import HandS.Conv
import KE.GoesEnum
import KE.SortData
import KE.KDictKeyed
import PyProof.SumWalkG
import PyProof.WalksMore
import HandS.Deep
import HandS.TupMul
import HandS.WideBits
import KE.DataEq
import KE.Datum
import HandS.TupLen
import PyProof.Transfer
import PySem.Challenge.RW_lotsoflots_k47_whole_words_lines_and_row
namespace Ca
/-! words of t letters -/
def wds (t : Nat) : Nat → List (List Nat)
  | 0 => [[]]
  | n + 1 => (wds t n).flatMap fun w => (List.range t).map fun x => w ++ [x]
theorem mem_wds {t : Nat} : ∀ {n : Nat} {w : List Nat}, w ∈ wds t n ↔ w.length = n ∧ ∀ x ∈ w, x < t
  | 0, w => by
    show w ∈ [[]] ↔ _
    rw [List.mem_singleton]
    constructor
    · intro e; subst e; exact ⟨rfl, fun x h => nomatch h⟩
    · intro h; exact List.eq_nil_of_length_eq_zero h.1
  | n + 1, w => by
    show w ∈ (wds t n).flatMap _ ↔ _
    rw [List.mem_flatMap]
    constructor
    · rintro ⟨u, hu, hw⟩
      obtain ⟨x, hx, rfl⟩ := List.mem_map.mp hw
      obtain ⟨h1, h2⟩ := mem_wds.mp hu
      refine ⟨by rw [List.length_append, h1]; rfl, fun y hy => ?_⟩
      rcases List.mem_append.mp hy with e | e
      · exact h2 y e
      · rw [List.mem_singleton.mp e]; exact List.mem_range.mp hx
    · rintro ⟨h1, h2⟩
      have ne : w ≠ [] := fun e => by rw [e] at h1; cases h1
      refine ⟨w.dropLast, mem_wds.mpr ⟨by rw [List.length_dropLast, h1]; rfl, fun x hx => h2 x (List.dropLast_subset w hx)⟩, List.mem_map.mpr ⟨w.getLast ne, List.mem_range.mpr (h2 _ (List.getLast_mem ne)), List.dropLast_concat_getLast ne⟩⟩
/-- the number of a word -/
def wpl (t : Nat) (w : List Nat) : Nat := w.foldl (fun f x => f * t + x) 0
theorem wpl_snoc (t : Nat) (w : List Nat) (x : Nat) : wpl t (w ++ [x]) = wpl t w * t + x := by unfold wpl; rw [List.foldl_append]; rfl
theorem wds_len (t : Nat) : ∀ n, (wds t n).length = t ^ n
  | 0 => rfl
  | n + 1 => by
    show ((wds t n).flatMap _).length = _
    rw [List.length_flatMap]
    have e : (wds t n).map (fun w => ((List.range t).map fun x => w ++ [x]).length) = (wds t n).map fun _ => t := List.map_congr_left fun w _ => by rw [List.length_map, List.length_range]
    rw [e, List.map_const', List.sum_replicate_nat, wds_len t n, Nat.pow_succ]
/-- rows put one behind another, all of one length -/
theorem flat_get {α β : Type} (f : α → List β) (t : Nat) : ∀ (l : List α) (i j : Nat) (a : α), (∀ a ∈ l, (f a).length = t) → l[i]? = some a → j < t → (l.flatMap f)[i * t + j]? = (f a)[j]?
  | [], _, _, _, _, h, _ => by cases h
  | b :: l, 0, j, a, hl, h, hj => by
    cases h
    show (f b ++ l.flatMap f)[0 * t + j]? = _
    rw [Nat.zero_mul, Nat.zero_add, List.getElem?_append_left (by rw [hl b (by simp)]; exact hj)]
  | b :: l, i + 1, j, a, hl, h, hj => by
    have ih := flat_get f t l i j a (fun a ha => hl a (by simp [ha])) (by simpa using h) hj
    show (f b ++ l.flatMap f)[(i + 1) * t + j]? = _
    have e := hl b (by simp)
    rw [List.getElem?_append_right (by rw [e, Nat.succ_mul]; omega), e, show (i + 1) * t + j - t = i * t + j by rw [Nat.succ_mul]; omega]
    exact ih
theorem wds_at (t : Nat) : ∀ (n : Nat) (w : List Nat), w ∈ wds t n → (wds t n)[wpl t w]? = some w
  | 0, w, h => by
    rw [List.mem_singleton.mp (show w ∈ [[]] from h)]
    rfl
  | n + 1, w, h => by
    obtain ⟨u, hu, hw⟩ := List.mem_flatMap.mp (show w ∈ (wds t n).flatMap _ from h)
    obtain ⟨x, hx, rfl⟩ := List.mem_map.mp hw
    have ih := wds_at t n u hu
    have hx := List.mem_range.mp hx
    rw [wpl_snoc]
    show ((wds t n).flatMap _)[wpl t u * t + x]? = _
    rw [flat_get _ t (wds t n) (wpl t u) x u (fun a _ => by rw [List.length_map, List.length_range]) ih hx, List.getElem?_map, List.getElem?_range hx]
    rfl
theorem wds_inj (t : Nat) : ∀ (n i : Nat) (w : List Nat), (wds t n)[i]? = some w → wpl t w = i
  | 0, i, w, h => by
    have h : [[]][i]? = some w := h
    cases i with
    | zero => cases h; rfl
    | succ i => cases h
  | n + 1, i, w, h => by
    have hi : i < t ^ n * t := by
      have := (List.getElem?_eq_some_iff.mp h).1
      rw [wds_len, Nat.pow_succ] at this
      exact this
    have tp : 0 < t := Nat.pos_of_ne_zero fun e => by subst e; rw [Nat.mul_zero] at hi; omega
    have ha : i / t < (wds t n).length := by rw [wds_len]; exact Nat.div_lt_of_lt_mul (by rw [Nat.mul_comm]; exact hi)
    have hx := Nat.mod_lt i tp
    have eu : (wds t n)[i / t]? = some (wds t n)[i / t] := List.getElem?_eq_getElem ha
    generalize (wds t n)[i / t] = u at eu
    have g := flat_get (fun w => (List.range t).map fun x => w ++ [x]) t (wds t n) (i / t) (i % t) u (fun a _ => by rw [List.length_map, List.length_range]) eu hx
    have e2 : i / t * t + i % t = i := Nat.div_add_mod' i t
    rw [e2] at g
    have h : ((wds t n).flatMap fun w => (List.range t).map fun x => w ++ [x])[i]? = some w := h
    rw [h, List.getElem?_map, List.getElem?_range hx] at g
    cases g
    rw [wpl_snoc, wds_inj t n _ u eu, e2]
theorem wds_nodup (t n : Nat) : (wds t n).Nodup := by
  refine List.pairwise_iff_getElem.mpr fun i j hi hj hij e => ?_
  have a := wds_inj t n i _ (List.getElem?_eq_getElem hi)
  have b := wds_inj t n j _ (List.getElem?_eq_getElem hj)
  rw [e] at a
  omega
/-! lines: words with stars, each letter put for all stars -/
/-- the stars t changed to x -/
def putW (t x : Nat) (w : List Nat) : List Nat := w.map fun y => if y = t then x else y
theorem putW_len (t x : Nat) (w : List Nat) : (putW t x w).length = w.length := List.length_map _
theorem putW_mem {t x n : Nat} {w : List Nat} (hx : x < t) (hw : w ∈ wds (t + 1) n) : putW t x w ∈ wds t n := by
  obtain ⟨h1, h2⟩ := mem_wds.mp hw
  refine mem_wds.mpr ⟨by rw [putW_len, h1], fun y hy => ?_⟩
  obtain ⟨z, hz, rfl⟩ := List.mem_map.mp hy
  have := h2 z hz
  split <;> omega
def starsN (t : Nat) (w : List Nat) : Nat := (w.filter fun y => y == t).length
def baseN (t : Nat) (w : List Nat) : Nat := (w.filter fun y => y != t).sum
theorem put_sum (t x : Nat) : ∀ w : List Nat, (putW t x w).sum = baseN t w + x * starsN t w
  | [] => rfl
  | y :: w => by
    have ih := put_sum t x w
    unfold putW baseN starsN at *
    by_cases e : y = t
    · subst e
      simp only [List.map_cons, List.sum_cons, if_true, List.filter_cons, beq_self_eq_true, bne_self_eq_false, Bool.false_eq_true, if_false, List.length_cons] at *
      rw [ih, Nat.mul_succ]; omega
    · have e1 : (y == t) = false := by simpa using e
      have e2 : (y != t) = true := by simp [e]
      simp only [List.map_cons, List.sum_cons, if_neg e, List.filter_cons, e1, e2, if_true, Bool.false_eq_true, if_false] at *
      rw [ih]; omega
theorem stars_pos {t : Nat} {w : List Nat} (h : t ∈ w) : 1 ≤ starsN t w := by
  unfold starsN
  exact List.length_pos_iff.mpr fun e => by
    have := (List.filter_eq_nil_iff.mp e) t h
    simp at this
theorem stars_le (t : Nat) (w : List Nat) : starsN t w ≤ w.length := List.length_filter_le _ _
theorem base_le {t n : Nat} (ht : 1 ≤ t) : ∀ {w : List Nat}, (∀ x ∈ w, x < t + 1) → baseN t w + (t - 1) * starsN t w ≤ (t - 1) * w.length
  | [], _ => by simp [baseN, starsN]
  | y :: w, h => by
    have ih := base_le (n := n) ht (w := w) fun x hx => h x (by simp [hx])
    have hy := h y (by simp)
    unfold baseN starsN at *
    by_cases e : y = t
    · subst e
      simp only [List.filter_cons, beq_self_eq_true, bne_self_eq_false, Bool.false_eq_true, if_true, if_false, List.length_cons, Nat.mul_succ] at *
      omega
    · have e1 : (y == t) = false := by simpa using e
      have e2 : (y != t) = true := by simp [e]
      simp only [List.filter_cons, e1, e2, if_true, Bool.false_eq_true, if_false, List.sum_cons, List.length_cons, Nat.mul_succ] at *
      omega
/-- how many words have no star -/
theorem no_star (t : Nat) : ∀ n, ((wds (t + 1) n).filter fun w => !w.contains t).length = t ^ n
  | 0 => by simp [wds]
  | n + 1 => by
    have ih := no_star t n
    show (((wds (t + 1) n).flatMap fun w => (List.range (t + 1)).map fun x => w ++ [x]).filter fun w => !w.contains t).length = _
    rw [List.filter_flatMap, List.length_flatMap]
    have e : ∀ w ∈ wds (t + 1) n, (((List.range (t + 1)).map fun x => w ++ [x]).filter fun w => !w.contains t).length = if (!w.contains t) = true then t else 0 := fun w _ => by
      rw [List.filter_map, List.length_map]
      by_cases q : t ∈ w
      · rw [if_neg (by simp [q])]
        rw [List.length_eq_zero_iff, List.filter_eq_nil_iff]
        intro x _
        simp [q]
      · rw [if_pos (by simp [q]), List.range_succ, List.filter_append]
        have a : (List.range t).filter ((fun w => !w.contains t) ∘ fun x => w ++ [x]) = List.range t := by
          rw [List.filter_eq_self]
          intro x hx
          have := List.mem_range.mp hx
          simp [q]; omega
        have b : [t].filter ((fun w => !w.contains t) ∘ fun x => w ++ [x]) = [] := by simp
        rw [a, b, List.append_nil, List.length_range]
    rw [List.map_congr_left e]
    have s : ∀ l : List (List Nat), (l.map fun w => if (!w.contains t) = true then t else 0).sum = (l.filter fun w => !w.contains t).length * t := fun l => by
      induction l with
      | nil => simp
      | cons w l ih =>
        rw [List.map_cons, List.sum_cons, ih, List.filter_cons]
        by_cases q : (!w.contains t) = true
        · rw [if_pos q, if_pos q, List.length_cons, Nat.succ_mul]; omega
        · rw [if_neg q, if_neg q]; omega
    rw [s, ih, Nat.pow_succ]
theorem star_count (t n : Nat) : ((wds (t + 1) n).filter fun w => w.contains t).length + t ^ n = (t + 1) ^ n := by
  have a := no_star t n
  have b := wds_len (t + 1) n
  have c : ∀ l : List (List Nat), (l.filter fun w => w.contains t).length + (l.filter fun w => !w.contains t).length = l.length := fun l => by
    induction l with
    | nil => rfl
    | cons w l ih =>
      rw [List.filter_cons, List.filter_cons]
      cases q : w.contains t
      · rw [if_neg Bool.false_ne_true, if_pos (by rfl), List.length_cons, List.length_cons]; omega
      · rw [if_pos rfl, if_neg (by decide), List.length_cons, List.length_cons]; omega
  have := c (wds (t + 1) n)
  omega
end Ca
set_option Elab.async false
set_option linter.all false
set_option maxRecDepth 100000
set_option maxHeartbeats 4000000
namespace Gk
open PySem L2

/-! a def as the top left it: its body's place, its name, how its arguments bind -/
structure Df (K : PySem.W.Frag) (mg : Str → Option Value) (x : Str) (st : Stmt) (ps : List Str) (a : Addr) (fd : FuncData) : Prop where
  F : Fun K x x st a fd
  g : mg x = some (.ref a)
  b : Binds K fd ps []

section
variable {X : Cx} {k : Nat} {f : Addr} {fd : FuncData} {ps : List Str} {sp : Sp} {x : Str} {st : Stmt} {p pos : Pos} {e : Expr} {es : List Expr} {t : TA}
theorem pe_cl (D : Df X.K X.mg x st ps f fd) (G : FnOk X.prog X.w X.K X.mg X.base CX0 k f fd ps sp) (hr : Room k X.A) (hg : Gl X x) (ha : PA X (e :: es) t)
    (hdb : (x == ("__debug__" : Str)) = false := by decide) (he : starEach (e :: es) X.env = (false, eval e X.env) :: starEach es X.env := by rfl)
    (hpl : (backTo pos (starEach es X.env)).any (·.1) = false := by rfl) :
    PE X (.Call (.Name x p) (e :: es) [] pos) (tCall sp [] E0 t) :=
  pe_call G hr hg D.g D.F.kp D.b .nil pass0 ha hdb he hpl
end

/-! products and rests -/
def CMulG (i j : Int) : Prop := i.natAbs < 2 ^ 64 ∨ j.natAbs < 2 ^ 64 ∨ CMulW i j
theorem op_mulG {X : Cx} : OpR X (binaryOp .Mult) (rI CMulG fun i j => .int (i * j)) := by
  intro pins s σ H x y v u Q I rx ry h
  obtain ⟨i, j, ex, ey, hc, q⟩ := h
  have e64 : (2 : Int) ^ 64 = ((2 ^ 64 : Nat) : Int) := by decide
  rcases hc with hc | hc | hc
  · exact op_mul pins s σ H x y v u Q I rx ry ⟨i, j, ex, ey, .inl ⟨by rw [e64]; omega, by rw [e64]; omega⟩, q⟩
  · exact op_mul pins s σ H x y v u Q I rx ry ⟨i, j, ex, ey, .inr ⟨by rw [e64]; omega, by rw [e64]; omega⟩, q⟩
  · exact op_mulW pins s σ H x y v u Q I rx ry ⟨i, j, ex, ey, hc, q⟩
theorem op_modG {X : Cx} : OpR X (binaryOp .Mod) (rI (fun _ j => 0 < j) fun i j => .int (i % j)) := by
  intro pins s σ H x y v u Q I rx ry h
  obtain ⟨i, j, ex, ey, hc, q⟩ := h
  refine op_modN pins s σ H x y v u Q I rx ry ⟨i, j, ex, ey, by omega, ?_⟩
  show Q (.int (i.fmod j)) H
  rw [Int.fmod_eq_emod_of_nonneg i (by omega)]
  exact q

/-! rules within a comprehension's block, the written part said outright -/
section
variable {X : Cx}
theorem ix_listK (K : PySem.W.Frag) (h : X.K = K) : IxR X (rIxL K) := h ▸ ix_list
theorem ix_tupK (K : PySem.W.Frag) (h : X.K = K) : IxR X (rIxT K) := h ▸ ix_tup
theorem sl_listK (K : PySem.W.Frag) (h : X.K = K) : SlR X (rSlL K) := h ▸ sl_list
theorem sl_tupAK (K : PySem.W.Frag) (h : X.K = K) : SlR X (rSlA K) := h ▸ sl_tupA
theorem op_catAK (K : PySem.W.Frag) (h : X.K = K) : OpR X (binaryOp .Add) (rCatA K) := h ▸ op_catA
theorem op_in_seqK (K : PySem.W.Frag) (h : X.K = K) : OpR X (compareOp .In) (rIn K false) := h ▸ op_in_seq
theorem op_notIn_seqK (K : PySem.W.Frag) (h : X.K = K) : OpR X (compareOp .NotIn) (rIn K true) := h ▸ op_notIn_seq
theorem op_eqDK (K : PySem.W.Frag) (h : X.K = K) (hu : X.A.units + 64 < cLine) : OpR X (compareOp .Eq) (rEqD K) := h ▸ op_eqD hu
theorem op_neDK (K : PySem.W.Frag) (h : X.K = K) (hu : X.A.units + 64 < cLine) : OpR X (compareOp .NotEq) (rNeD K) := h ▸ op_neD hu
def rLenK (K : PySem.W.Frag) : List V → Hp → VK → Prop := fun xs H Q => ∃ p ys, xs = [.ref p] ∧ (SqL K H p ys ∨ SqT K H p ys) ∧ Q (.int ys.length) H
theorem call_len_seqK (K : PySem.W.Frag) (h : X.K = K) : CallR X (.builtin "len") (rLenK K) := h ▸ call_len_seq
def rTupK (K : PySem.W.Frag) : List V → Hp → VK → Prop := fun xs H Q =>
  ∃ p ys, xs = [.ref p] ∧ ((SqL K H p ys ∧ ∀ l, H l = none → Q (.ref l) (upd H l (.tup ys))) ∨ (SqT K H p ys ∧ Q (.ref p) H))
theorem call_tuple_ofK (K : PySem.W.Frag) (h : X.K = K) : CallR X (.type "tuple") (rTupK K) := h ▸ call_tuple_of
def rLstK (K : PySem.W.Frag) : List V → Hp → VK → Prop := fun xs H Q => ∃ p ys, xs = [.ref p] ∧ (SqL K H p ys ∨ SqT K H p ys) ∧ ∀ l, H l = none → Q (.ref l) (upd H l (.lst ys))
theorem call_list_ofK (K : PySem.W.Frag) (h : X.K = K) : CallR X (.type "list") (rLstK K) := h ▸ call_list_of
theorem cr_sumK (K : PySem.W.Frag) (h : X.K = K) (hc : X.calm = true) : CallR X (.builtin "sum") (rSum K) := h ▸ cr_sum hc
theorem cr_anyK (K : PySem.W.Frag) (h : X.K = K) (hc : X.calm = true) : CallR X (.builtin "any") (rAny K) := h ▸ cr_any hc
theorem cr_allK (K : PySem.W.Frag) (h : X.K = K) (hc : X.calm = true) : CallR X (.builtin "all") (rAll K) := h ▸ cr_all hc
end
end Gk
namespace Gk
open PySem L2 PyProof.Rows

/-! no dict stands within data of the layer -/
mutual
theorem dp_flat {K : PySem.W.Frag} {H : Hp} : ∀ (d : PyData) (v : V), Dp K H v d → d.hasDict = false
  | .none, _, _ => by simp only [PyData.hasDict]
  | .bool _, _, _ => by simp only [PyData.hasDict]
  | .int _, _, _ => by simp only [PyData.hasDict]
  | .str _, _, _ => by simp only [PyData.hasDict]
  | .list ds, _, h => by
    cases h with
    | lst _ h2 => simp only [PyData.hasDict, dpAll_flat ds _ h2]
  | .tuple ds, _, h => by
    cases h with
    | tup _ h2 => simp only [PyData.hasDict, dpAll_flat ds _ h2]
  | .dict _, _, h => by cases h
theorem dpAll_flat {K : PySem.W.Frag} {H : Hp} : ∀ (ds : List PyData) (vs : List V), DpAll K H vs ds → PyData.hasDictAll ds = false
  | [], _, _ => by simp only [PyData.hasDictAll]
  | d :: ds, _, h => by
    cases h with
    | cons h1 h2 => simp only [PyData.hasDictAll, dp_flat d _ h1, dpAll_flat ds _ h2, Bool.or_self]
end

/-! repr of data; nothing is being shown already: the around's guards are none -/
def rRepr (K : PySem.W.Frag) : List V → Hp → VK → Prop := fun vs H Q =>
  ∃ x d, vs = [x] ∧ Dp K H x d ∧ d.showable = true ∧ d.depth ≤ 60 ∧ d.shown.length ≤ sizeLine ∧ Q (.str d.shown) H
theorem cr_repr {X : Cx} (hg : X.A.guards = some []) (hu : X.A.units + 64 < cLine) : CallR X (.builtin "repr") (rRepr X.K) := by
  intro pins s σ H vs us Q I r h
  obtain ⟨x, d, rfl, hd, hs, hde, hl, q⟩ := h
  cases r with
  | cons rx rr =>
    cases rr
    rename_i u
    have whole : ∀ a : Addr, u = Value.ref a → wpAny (model X.prog X.w) X.A (call (.builtin "repr") [u]) (EP X pins σ Q) X.xe s := fun a e => by
      obtain ⟨as, rd⟩ := Dp.reads I d x u hd rx
      subst e
      exact repr_of_reads' rd hs (PyData.noDict_hsm (dp_flat d x hd)) hg (by omega) (fun _ _ e => e) (fun h' u tk hk => ⟨.str _, H, I.kept (t' := tk) hk, ⟨_, rfl⟩, q⟩) hl
    cases hd with
    | non =>
      cases (show u = Value.none from rx)
      exact PySem.P.repr_of_none ⟨.str _, H, I.tok _, ⟨_, rfl⟩, q⟩
    | bl b =>
      cases (show u = Value.bool b from rx)
      exact PySem.P.repr_of_bool ⟨.str _, H, I.tok _, ⟨_, rfl⟩, by cases b <;> exact q⟩
    | int i =>
      obtain ⟨t, rfl⟩ := rx
      have hz : i.natAbs.log2 < 1920 := by simpa [PyData.showable] using hs
      exact PySem.P.repr_of_int hz ⟨.str _, H, I.tok _, ⟨_, rfl⟩, q⟩
    | str z =>
      obtain ⟨t, rfl⟩ := rx
      exact PySem.P.repr_of_str ⟨.str _, H, I.tok _, ⟨_, rfl⟩, q⟩ hl
    | lst h1 h2 => exact whole _ rx
    | tup h1 h2 => exact whole _ rx

/-! enumerate(t), t a tuple -/
theorem tup_enum_new {prog : Program} {w : World} {A : Around} {E : Value → Shared → Prop} {s : Shared} {v : Value} {o : Obj} {G : Heap → Prop} {Q : Value → Shared → Prop} (B : Begins v o G) (h1 : G s.heap)
    (h : ∀ h', IsEnum h' (s.heap.objs.size + 1) s.heap.objs.size 0 .none → h'.get? s.heap.objs.size = some o →
      (∀ b o, s.heap.get? b = some o → h'.get? b = some o) → Q (.ref (s.heap.objs.size + 1)) { s with heap := h' }) :
    wpAny (model prog w) A (call (.type "enumerate") [v]) Q E s := by
  have meets : Meets (Builtin.«enumerate.__new__» ⟨[.type "enumerate", v], []⟩) (fun _ R s => G s.heap ∧
      R (.ok (.ret (.ref (s.heap.push o).objs.size))) { s with heap := (s.heap.push o).push { cls := .type "enumerate", data := .fields #[.none, .bool false, .ref s.heap.objs.size, rawInt 0, .none, .none] } }) :=
    .of_wp fun prog w A R s hh => by
      obtain ⟨hp, g, d, tk, os⟩ := s
      obtain ⟨g1, hh⟩ := hh
      have hsub := sub_enumerate
      have q1 : ∀ {A' : Around} {E : Value → Shared → Prop} {Q : Value → Shared → Prop}, Q (.ref hp.objs.size) ⟨hp.push o, g, d, tk, os⟩ → wpAny (model prog w) A' (pyIter v) Q E ⟨hp, g, d, tk, os⟩ :=
        fun q => B.iter prog w _ _ ⟨hp, g, d, tk, os⟩ _ g1 q
      wp_walk using q1
      refine wpAny_stack_any fun st => wpAny_pure ?_
      split
      · rename_i c _ _ _ _ _
        cases (c == Value.type "enumerate") <;> (wp_walk using q1; exact ⟨_, rfl, hh⟩)
      · wp_walk using q1
        exact ⟨_, rfl, hh⟩
  refine callType_new F.called_enumerate (by decide) (F.typeCall_enumerate_1 _) (F.newCall_enumerate_1 _) (fun obj => F.args_object_init_2 obj _) F.entry_enumerate_new meets ⟨h1, ?_⟩
  have hz : (s.heap.push o).objs.size = s.heap.objs.size + 1 := Heap.size_push ..
  show _ ∧ _
  rw [hz]
  have he := Heap.get?_push_size (s.heap.push o) (o := { cls := .type "enumerate", data := .fields #[.none, .bool false, .ref s.heap.objs.size, rawInt 0, .none, .none] }) rfl
  rw [hz] at he
  exact ⟨⟨_, he, rfl⟩, h _ he (Heap.get?_push_of_some _ (Heap.get?_push_size _ B.free)) fun b o x => Heap.get?_push_of_some _ (Heap.get?_push_of_some _ x)⟩

def IteT (K : PySem.W.Frag) (a : Addr) : It where
  go := fun i H => ∃ (xs : List V) (x : V), SqT K H a xs ∧ xs[i]? = some x
  yld := fun i H v H' => ∃ T x, v = .ref T ∧ H T = none ∧ H' = upd H T (.tup [.int (i : Nat), x]) ∧ ∀ xs, SqT K H a xs → xs[i]? = some x
  stop := fun i H => ∃ xs : List V, SqT K H a xs ∧ xs.length = i
theorem turn_enumT {P : Program} {w : World} {K : PySem.W.Frag} {elts : List Expr} {kk : Nat} {tpos : Pos} (a e it : Addr) (hae : a ≠ e) (hai : a ≠ it) :
    Turn P w K (.Tuple elts kk tpos) (IteT K a) [e, it] e (fun i h => (∃ old, IsEnum h e it ((i : Nat) : Int) old) ∧ h.IsTupleIter it a i ∧ e ≠ it) where
  mem := List.mem_cons_self ..
  obj := fun i h ⟨⟨old, he⟩, ⟨o, ho, hc, hd⟩, _⟩ b hb => by
    rcases List.mem_cons.mp hb with z | z
    · subst z; exact ⟨_, he, fun v q => nomatch q⟩
    · rw [List.mem_singleton.mp z]; exact ⟨o, ho, fun v q => by rw [hd] at q; cases q⟩
  keep := fun i h h' ⟨⟨old, he⟩, hi, hne⟩ k => ⟨⟨old, k e (by simp) _ he⟩, hi.at fun o q => k it (by simp) o q, hne⟩
  item := by
    intro X hP hw hK hc i pins s σ H E I hf ⟨⟨old, he⟩, hit, hne⟩ ⟨xs, x, hq, hx⟩
    subst hP hw hK
    obtain ⟨its, rv, p, hz⟩ := I.tuple hq
    obtain ⟨u, hu, ru⟩ := rv.get hx
    have hi : i < its.toArray.size := by
      have := (List.getElem?_eq_some_iff.mp hu).1
      simpa using this
    have D := Draws.tuple (prog := X.prog) (w := X.w) (A := X.A.in1) (I.ok.hd hc) it a hai its.toArray
    have hel : e < s.heap.objs.size := Heap.lt_size he
    have hil : it < s.heap.objs.size := by obtain ⟨_, q, _⟩ := hit; exact Heap.lt_size q
    refine wpAny_pyNext_enum_itemC D he ⟨hit, p⟩ hi hne (by simp; exact ⟨hne, fun z => hae z.symm⟩) fun y h' tk hy ho hst hT hsz hk => ?_
    have ey : y = u := by
      have : its.toArray[i]? = some u := by simpa using hu
      rw [this] at hy
      exact (Option.some.inj hy).symm
    subst ey
    refine ⟨_, rfl, wpAny_letOwnedTupleGo_enum (s := { s with heap := h', toks := tk + 1 }) ho fun h'' he' sb => ?_⟩
    have hT2 : h''.get? s.heap.objs.size = some { cls := .type "tuple", data := .seq #[.int i tk, y] } := (sb.2 _ (Nat.ne_of_gt hel)).trans hT
    have new : ObjOk X.prog X.w (upd H s.heap.objs.size (.tup [.int (i : Nat), x])) h'' s.heap.objs.size (.tup [.int (i : Nat), x]) :=
      ⟨by show 2 ≤ sizeLine; decide, [.int i tk, y], .cons ⟨_, rfl⟩ (.cons ru .nil), ⟨_, hT2, rfl, _, rfl⟩⟩
    have I1 : L2.Inv X pins σ (upd H s.heap.objs.size (.tup [.int (i : Nat), x])) { s with heap := h'', toks := tk + 1 } :=
      I.turnedNew (ch := [e, it]) (fun b ob hb q => by
        have n1 : b ≠ e := fun z => hb (by simp [z])
        have n2 : b ≠ it := fun z => hb (by simp [z])
        exact (sb.2 b n1).trans (hk b ob n1 n2 q)) hf (Nat.le_refl _) new
    refine ⟨.ref s.heap.objs.size, _, I1, rfl, ⟨_, x, rfl, I.hok.fresh (Nat.le_refl _), rfl, fun ys hy => by rw [I.tuple_inj hy hq]; exact hx⟩, ⟨⟨y, ?_⟩, hst.1.at fun o q => (sb.2 it (Ne.symm hne)).trans q, hne⟩, fun b hb => ?_⟩
    · have e1 : ((i + 1 : Nat) : Int) = (i : Int) + 1 := by omega
      rw [e1]
      exact he'
    · have hb' : b < s.heap.objs.size := by
        rcases List.mem_cons.mp hb with z | z
        · rw [z]; exact hel
        · rw [List.mem_singleton.mp z]; exact hil
      rw [upd_ne (Nat.ne_of_lt hb')]
      exact (hf b hb).1
  done := by
    intro X hP hw hK hc i pins s σ H E I hf ⟨⟨old, he⟩, hit, hne⟩ ⟨xs, hq, hx⟩
    subst hP hw hK
    obtain ⟨its, rv, p, hz⟩ := I.tuple hq
    obtain ⟨f0, f1, f2, f3, f4, f5⟩ := hf it (by simp)
    have hl := rv.length
    have D := Draws.tuple (prog := X.prog) (w := X.w) (A := X.A.in1) (I.ok.hd hc) it a hai its.toArray
    have en : its.toArray.size = i := by rw [List.size_toArray]; omega
    rw [en] at D
    exact wpAny_pyNext_enum_endD D he ⟨hit, p⟩ fun h' eb => ⟨rfl, I.turned (t' := s.toks) (fun b o hb q => eb b o hb q) f0 f1 f3 f4 f5⟩
  self := fun A i s Q E ⟨⟨_, he⟩, _⟩ h => wpAny_pyIter_enum he h
def iEnumT (K : PySem.W.Frag) (ta : TA) : TI := fun σ H R => ta σ H fun vs H1 => ∃ a xs, vs = [.ref a] ∧ SqT K H1 a xs ∧ R (IteT K a) H1
theorem pi_enumT {X : Cx} {e : Expr} {ta : TA} {p pos tpos : Pos} {elts : List Expr} {kk : Nat} (hg : Gl X "enumerate") (hm : X.mg "enumerate" = none) (ha : PA X [e] ta)
    (hs : starEach [e] X.env = [(false, eval e X.env)] := by rfl) : PI X (.Tuple elts kk tpos) (.Call (.Name "enumerate" p) [e] [] pos) (iEnumT X.K ta) := by
  constructor
  intro pins s σ H R I h
  refine Call_ (ld_blt I hg hm boot_enumerate (callWith_type1 (thn (ha.run pos pins s σ H _ I h) fun us s1 ⟨vs, H1, I1, r1, a, xs, ex, hq, q⟩ => ?_) hs rfl))
  subst ex
  cases r1 with
  | cons r rr =>
    cases rr
    cases r
    obtain ⟨its, rv, p', hz⟩ := I1.tuple hq
    have la : a < s1.heap.objs.size := by
      obtain ⟨o, ho, _⟩ := id p'
      exact Heap.lt_size ho
    refine tup_enum_new (begins_tuple a its.toArray) p' fun h' he hit hk => wpAny_pyIter_enum he ?_
    have I2 : L2.Inv X pins σ H1 { s1 with heap := h' } := I1.kept (t' := s1.toks) hk
    refine ⟨s1.heap.objs.size + 1, [s1.heap.objs.size + 1, s1.heap.objs.size], _, _, H1, rfl, I2,
      turn_enumT a (s1.heap.objs.size + 1) s1.heap.objs.size (Nat.ne_of_lt (Nat.lt_succ_of_lt la)) (Nat.ne_of_lt la), ⟨⟨.none, he⟩, ⟨_, hit, rfl, rfl⟩, Nat.succ_ne_self _⟩, fun b hb => ?_, q⟩
    have hle : s1.heap.objs.size ≤ b := by
      rcases List.mem_cons.mp hb with z | z
      · rw [z]; exact Nat.le_succ _
      · rw [List.mem_singleton.mp z]; exact Nat.le_refl _
    exact I1.fpOk hle (I1.hok.fresh hle)
theorem walk_enumT {K : PySem.W.Frag} {a : Addr} {xs : List V} : Walk (IteT K a) xs.length (fun H => SqT K H a xs) (YPair (fun i => some (.int (i : Nat))) (fun i => xs[i]?)) where
  goes := fun i _ hi q => ⟨xs, xs[i], q, by simp [hi]⟩
  stops := fun _ q => ⟨xs, q, rfl⟩
  yields := fun i H v H' _ q ⟨T, x, h1, h2, h3, h4⟩ => ⟨T, .int (i : Nat), x, h1, h2, h3, rfl, h4 xs q⟩
end Gk
namespace Gk
open PySem L2 PyProof.Rows

/-! promises of defs that show values: kept where nothing is being shown -/
structure FnG (P : Program) (w : World) (K : PySem.W.Frag) (mg : Str → Option Value) (base : Heap) (k : Nat) (f : Addr) (fd : FuncData) (ps : List Str) (sp : Sp) : Prop where
  len : ∀ vs H Q E, sp vs H Q E → vs.length = ps.length
  run : ∀ (A : Around) (outer : List Env) (s : Shared) (H : Hp) (args : Args) (us : List Value) (vs : List V) (Q : VK) (E : XK), A.guards = some [] → Room k A →
    Env0 P w K mg base A outer s H → BindsTo s fd args (ps.zip us) → Vals vs us → sp vs H Q E → codeAny (model P w) A (.call (.ref f) args) (CR CX0 outer P w H s Q E) s
section
variable {P : Program} {w : World} {K : PySem.W.Frag} {mg : Str → Option Value} {base : Heap}
theorem fnG_of {x qual : Str} {st : Stmt} {f : Addr} {fd : FuncData} {N ps : List Str} {k : Nat} {sp : Sp} (F : Fun K x qual st f fd) (S : FnScope N ps (defScope st))
    (len : ∀ vs H Q E, sp vs H Q E → vs.length = ps.length)
    (hbody : ∀ (cdv : Value) (A : Around) (outer : List Env) (s : Shared) (H : Hp) (vs : List V) (Q : VK) (E : XK),
      (A.deeper (envOfC qual (defScope st) s.heap.objs.size f cdv)).guards = some [] → Room k (A.deeper (envOfC qual (defScope st) s.heap.objs.size f cdv)) → sp vs H Q E →
      ∃ t, PSs (cxOf CX0 P w K mg base N qual (defScope st) f cdv A outer s H E).nox (defBody st) t ∧ t { nx := fun _ H' => Q .non H', rt := Q } (start N vs) H) :
    FnG P w K mg base (k + 1) f fd ps sp := by
  obtain ⟨oc, od, kV, doc, pm, an, cdv, ct, osl, rfl, lk, hcd⟩ := F.ex
  refine ⟨len, fun A outer s H args us vs Q E hg hr e0 hb r hsp => ?_⟩
  have KX : K.In s.heap := e0.mod.kin.keeps fun b o e => (e0.bs b o e).1
  have lim : s.heap.NoLimit := e0.mod.nolimit.keeps fun b o e => (e0.bs b o e).1
  refine codeAny_call_function hr.depth (KX _ _ lk) rfl S.co S.gen rfl (PySem.W.codeRec_of KX hcd) (hb _ _ _ _ ?_)
  refine wpAny_newFunctionEnv_cells S.kind (fun y hy => ?_) fun env he s1 x => ?_
  · rcases S.par y.1 (List.of_mem_zip hy).1 with q | q
    · exact .inl q
    · exact .inr ⟨q, PySem.W.cellsFrom_some _ _ _ (.inl q)⟩
  · subst he
    refine ⟨lim.keeps x.toInCall.keep, codeAny_func ?_⟩
    obtain ⟨t, ht, hq⟩ := hbody cdv A outer s H vs Q E hg (hr.deeper _) hsp
    have I := inv_start (CX := CX0) (E := E) S hr.hd e0 (len _ _ _ _ hsp) r x
    refine wpAny_mono (ht.nox.run [] s1 (start N vs) H _ I hq) (fun fl s' hs => ?_) fun e s' hs => hs
    cases fl with
    | ret u =>
      obtain ⟨v, σ', H', J, rv, q⟩ := hs
      exact ⟨v, H', J.os, J.bare, J.base, J.hok, rv, q⟩
    | next =>
      obtain ⟨σ', H', J, q⟩ := hs
      exact ⟨V.non, H', J.os, J.bare, J.base, J.hok, rfl, q⟩
    | brk =>
      obtain ⟨_, _, _, q⟩ := hs
      cases q
    | cont =>
      obtain ⟨_, _, _, q⟩ := hs
      cases q
theorem fnG_up {j k : Nat} {f : Addr} {fd : FuncData} {ps : List Str} {sp : Sp} (F : FnOk P w K mg base CX0 j f fd ps sp) (h : j ≤ k) : FnG P w K mg base k f fd ps sp :=
  ⟨F.len, fun A outer s H args us vs Q E _ hr => F.run A outer s H args us vs Q E (hr.mono h)⟩
end
section
variable {X : Cx} {k : Nat} {f : Addr} {fd : FuncData} {ps : List Str} {sp : Sp} {x : Str} {st : Stmt} {p pos : Pos} {e : Expr} {es : List Expr} {t : TA}
theorem pe_clG (hgd : X.A.guards = some []) (D : Df X.K X.mg x st ps f fd) (G : FnG X.prog X.w X.K X.mg X.base k f fd ps sp) (hr : Room k X.A) (hg : Gl X x) (ha : PA X (e :: es) t)
    (hdb : (x == ("__debug__" : Str)) = false := by decide) (he : starEach (e :: es) X.env = (false, eval e X.env) :: starEach es X.env := by rfl)
    (hpl : (backTo pos (starEach es X.env)).any (·.1) = false := by rfl) :
    PE X (.Call (.Name x p) (e :: es) [] pos) (tCall sp [] E0 t) := by
  constructor
  intro pins s σ H Q I h
  refine wpAny_Call_Name_kw (ld_glob I hg D.g ?_ hdb)
  refine PySem.W.callWith_K (h₀ := X.base) I.ok.mod.kin D.F.kp (thn (ha.run pos pins s σ H _ I h) fun us s1 ⟨vs, H1, I1, r, q⟩ => ⟨I1.kIn, ?_⟩) he hpl
  have q : sp (vs ++ []) H1 Q E0 := q
  rw [List.append_nil] at q
  have hl : us.length = ps.length := by rw [← r.length]; exact G.len _ _ _ _ q
  have hb := D.b s1 us I1.kIn (by rw [List.append_nil]; exact hl)
  rw [List.append_nil] at hb
  refine wpAny_call (codeAny_mono (G.run X.A X.stack s1 H1 ⟨us, []⟩ us vs Q E0 hgd hr I1.env0 hb r q) fun rr s' hq => ?_)
  cases rr with
  | error e => cases hq
  | ok fl =>
    cases fl with
    | ret u => exact I1.after hq
    | next => cases hq
    | brk => cases hq
    | cont => cases hq
end

/-! the end: the law's own call -/
theorem law_callG {P : Program} {w : World} {K : PySem.W.Frag} {mg mb : Str → Option Value} {k : Nat} {fa a : Addr} {fd : FuncData} {x : Str} {sp : Sp} {s1 : Shared} {vs : List Value} {ns : List Int}
    (KX : K.In s1.heap) (hns : s1.heap.Ns mainGlobals mg) (hb : s1.heap.Ns builtinsNs mb) (hbb : ∀ x : Str, x ≠ "__name__" → mb x = bootBuiltins x) (hlim : s1.heap.NoLimit) (hgen : s1.gens = #[])
    (ha : s1.heap.get? a = some { cls := .type "list", data := .seq vs.toArray }) (hi : IntsAre vs ns) (hl : ns.length ≤ sizeLine) (hr : Room k callerA)
    (F : ∀ base : Heap, K.In base → base.Ns mainGlobals mg → FnG P w K mg base k fa fd [x] sp) (hbind : ∀ (s : Shared) (u : Value), BindsTo s fd ⟨[u], []⟩ [(x, u)])
    (hsp : ∀ H : Hp, Only H → SqL K H a (ns.map V.int) → sp [.ref a] H (fun v _ => v = .bl true) E0) :
    codeAny (model P w) callerA (.call (.ref fa) ⟨[.ref a], []⟩) (fun r s' => r = .ok (.ret (.bool true)) ∧ OldK s1.heap s'.heap ∧ s'.os = s1.os ∧ AllBare s'.gens) s1 := by
  have rv := vals_ints hi
  have lv := hi.length
  have core : ∀ H : Hp, Only H → SqL K H a (ns.map V.int) → HOk P w H s1.heap → (∀ b, H b ≠ none → b = a ∧ K.lookup a = none) →
      codeAny (model P w) callerA (.call (.ref fa) ⟨[.ref a], []⟩) (fun r s' => r = .ok (.ret (.bool true)) ∧ OldK s1.heap s'.heap ∧ s'.os = s1.os ∧ AllBare s'.gens) s1 := by
    intro H hO hS hok hA
    have free : ∀ {b : Addr} {o : Obj}, s1.heap.get? b = some o → ((∃ es ep, o.data = .dict es ep) ∨ K.lookup b = some o) → H b = none := fun {b o} e z => by
      cases q : H b with
      | none => rfl
      | some u =>
        obtain ⟨eb, lk⟩ := hA b (by rw [q]; simp)
        subst eb
        rcases z with ⟨es, ep, d⟩ | z
        · rw [ha] at e
          cases e
          cases (show Data.seq vs.toArray _ = Data.dict es ep from d)
        · rw [lk] at z; cases z
    have nsK : ∀ {b : Addr} {m : Str → Option Value}, s1.heap.Ns b m → (hidT s1.heap H).Ns b m := fun {b m} ⟨o, es, ep, e, d, r⟩ => ⟨o, es, ep, hidT_get e (free e (.inl ⟨es, ep, d⟩)), d, r⟩
    have hKb : K.In (hidT s1.heap H) := fun b o e => hidT_get (KX b o e) (free (KX b o e) (.inr e))
    have e0 : Env0 P w K mg (hidT s1.heap H) callerA [] s1 H :=
      ⟨rfl, ⟨hKb, nsK hns, ⟨mb, nsK hb, hbb⟩, let ⟨mc, h1, h2⟩ := hlim; ⟨mc, nsK h1, h2⟩⟩, fun b o e => of_hidT e, Nat.le_of_eq (hidT_size _ _), trivial, fun b hb => (nomatch hb), hok, .of_eq hgen⟩
    refine codeAny_mono ((F _ hKb (nsK hns)).run callerA [] s1 H ⟨[.ref a], []⟩ [.ref a] [.ref a] _ _ rfl hr e0 (hbind s1 (.ref a)) (.cons rfl .nil) (hsp H hO hS)) fun r s' h => ?_
    cases r with
    | error e => cases h
    | ok fl =>
      cases fl with
      | next => cases h
      | brk => cases h
      | cont => cases h
      | ret u =>
        obtain ⟨v, H', os, bare, un, hok', r', q⟩ := h
        have qv : v = .bl true := q
        subst qv
        obtain rfl : u = Value.bool true := r'
        refine ⟨rfl, OldK.of_keep fun b o e => ?_, os, bare⟩
        rcases hO b with z | ⟨ob, xs, z⟩
        · exact un.keep b o e z (fun y => nomatch y) (fun y => nomatch y)
        · obtain ⟨e1, _⟩ := hok b _ z
          obtain ⟨e2, _⟩ := hok' b _ (un.frzs b ob _ z)
          rw [e] at e1
          cases e1
          exact e2
  by_cases hk : (K.lookup a).isSome = true
  · obtain ⟨o, hk⟩ := Option.isSome_iff_exists.mp hk
    have e := KX a o hk
    rw [ha] at e
    cases e
    exact core (fun _ => none) (fun _ => .inl rfl) (.inr ⟨_, vs.toArray, _, hk, rfl, rfl, rfl, by rw [List.size_toArray, lv]; exact hl, by simpa using rv⟩)
      (fun b u z => by cases (show (none : Option HO) = some u from z)) (fun b z => absurd rfl z)
  · have hk : K.lookup a = none := by
      cases q : K.lookup a with
      | none => rfl
      | some o => rw [q] at hk; simp at hk
    refine core (fun b => if b = a then some (.frz { cls := .type "list", data := .seq vs.toArray } (.lst (ns.map V.int))) else none) (fun b => ?_) (.inl (.inr ⟨_, if_pos rfl⟩)) (fun b u z => ?_) (fun b z => ?_)
    · by_cases hb : b = a
      · exact .inr ⟨_, _, if_pos hb⟩
      · exact .inl (if_neg hb)
    · by_cases hb : b = a
      · subst hb
        cases (if_pos rfl).symm.trans z
        exact ⟨ha, by rw [List.length_map]; exact hl, vs, _, rv, ha⟩
      · cases (if_neg hb).symm.trans z
    · by_cases hb : b = a
      · exact ⟨hb, hk⟩
      · exact absurd (if_neg hb) z
theorem walk_ofG {l : PySem.W.OpenLaw} {n k : Nat} {q : Program} {loose : List Str} {XP : (Str → Option Value) → Heap → Prop} {YP : World → Heap → Prop} {d : DefRec} {K : Params → PySem.W.Frag} {sp : PySem.W.Frag → Sp} {x : Str}
    (hn : l.most = some n) (hn2 : n ≤ sizeLine) (hdf : d.params.defaults = []) (hr : Room k callerA) (hY : ∀ (w : World) (h : Heap), YP w h → (K w.params).In h)
    (F : ∀ (w : World) (mg : Str → Option Value) (fa : Addr) (h : Heap), (K w.params).In h → h.Ns mainGlobals mg → mg d.name = some (.ref fa) →
      ∃ fd : FuncData, (∀ (s : Shared) (u : Value), BindsTo s fd ⟨[u], []⟩ [(x, u)]) ∧
        ∀ base : Heap, (K w.params).In base → base.Ns mainGlobals mg → FnG l.prog w (K w.params) mg base k fa fd [x] (sp (K w.params)))
    (hsp : ∀ (K : PySem.W.Frag) (H : Hp) (a : Addr) (ns : List Int), ns.length ≤ n → Only H → SqL K H a (ns.map V.int) → sp K [.ref a] H (fun v _ => v = .bl true) E0) :
    PySem.W.WalkO q loose XP YP l.row.toRowW d [] (fun f vs => PySem.call f vs) := by
  refine Att.attach_call hn hdf fun w s0 s1 mg mb fa o pm cd doc a vs ns G Y ho hd hcd hmg hobj hints hlen hgen => ?_
  obtain ⟨fd, hb, hF⟩ := F w mg fa _ (hY w _ Y) G.T.g hmg
  exact law_callG (hY w _ Y) G.T.g G.T.b G.T.builtins G.T.nolimit hgen hobj hints (Nat.le_trans hlen hn2) hr hF hb fun H hO hS => hsp _ H a ns hlen hO hS
end Gk
namespace Gk
open PySem L2 PyProof.Rows
/-! a bound of what repr shows -/
mutual
def wt : PyData → Nat
  | .none => 4
  | .bool _ => 5
  | .int i => i.natAbs.log2 + 2
  | .str x => (reprText x).length
  | .list xs => 2 + wtAll xs
  | .tuple xs => 3 + wtAll xs
  | .dict kvs => (dictText (PyData.shownKv kvs)).length
def wtAll : List PyData → Nat
  | [] => 0
  | x :: xs => wt x + 2 + wtAll xs
end
theorem textFrom_le : ∀ (ts : List Str) (k : Nat) (acc : Str), (textFrom k acc ts).length ≤ acc.length + piled ts
  | [], k, acc => by show acc.length ≤ _; omega
  | t :: ts, k, acc => by
    have ih := textFrom_le ts (k + 1) (acc ++ (if k > 0 then ", " else "" : String) ++ t)
    have e : (acc ++ (if k > 0 then ", " else "" : String) ++ t).length ≤ acc.length + 2 + t.length := by
      rw [strLen_append, strLen_append]
      have : (Str.ofString (if k > 0 then ", " else "" : String)).length ≤ 2 := by split <;> decide
      omega
    have p : piled (t :: ts) = t.length + 2 + piled ts := by unfold piled; simp
    show (textFrom (k + 1) _ ts).length ≤ _
    omega
theorem join_le (ts : List Str) : (Str.join ", " ts).length ≤ piled ts := by
  by_cases h : ts = []
  · subst h; decide
  · have := join_length_add ts h
    omega
mutual
theorem shown_le : ∀ d : PyData, d.shown.length ≤ wt d
  | .none => by simp only [PyData.shown, wt]; decide
  | .bool b => by cases b <;> (simp only [PyData.shown, wt]; decide)
  | .int i => by
    simp only [PyData.shown, wt]
    have e := int_text_length_le (a := i) (k := i.natAbs.log2 + 1) (Nat.succ_pos _) (Nat.lt_succ_self _)
    rw [PySem.ofString_length]
    omega
  | .str x => by simp only [PyData.shown, wt]; exact Nat.le_refl _
  | .list xs => by
    have ih := shownAll_le xs
    have t := textFrom_le (PyData.shownAll xs) 0 "["
    simp only [PyData.shown, wt]
    unfold listText
    rw [strLen_append]
    have e1 : (Str.ofString "[").length = 1 := by decide
    have e2 : (Str.ofString "]").length = 1 := by decide
    omega
  | .tuple xs => by
    have ih := shownAll_le xs
    have t := join_le (PyData.shownAll xs)
    simp only [PyData.shown, wt]
    unfold tupleText
    rw [strLen_append, strLen_append]
    have e1 : (Str.ofString "(").length = 1 := by decide
    have e2 : (Str.ofString (if (PyData.shownAll xs).length == 1 then ",)" else ")" : String)).length ≤ 2 := by split <;> decide
    omega
  | .dict kvs => by simp only [PyData.shown, wt]; exact Nat.le_refl _
theorem shownAll_le : ∀ xs : List PyData, piled (PyData.shownAll xs) ≤ wtAll xs
  | [] => by simp only [PyData.shownAll, wtAll]; exact Nat.le_refl _
  | x :: xs => by
    have h1 := shown_le x
    have h2 := shownAll_le xs
    have p : piled (x.shown :: PyData.shownAll xs) = x.shown.length + 2 + piled (PyData.shownAll xs) := by unfold piled; simp
    simp only [PyData.shownAll, wtAll]
    omega
end
/-- what repr asks, at once -/
theorem shows {d : PyData} {n : Nat} (h : wt d ≤ n) (hn : n ≤ 16000000 := by decide) : d.shown.length ≤ sizeLine :=
  Nat.le_trans (shown_le d) (Nat.le_trans h (Nat.le_trans hn (by decide)))
theorem log_of {i : Int} {n : Nat} (h : i.natAbs < 2 ^ n) (h0 : 0 < n) : i.natAbs.log2 < n := PySem.Flt.log2_lt_of h0 h
end Gk
namespace Gk
open PySem L2 PyProof.Rows
/-! zip of two sources of any kind: tuples, lists, ranges -/
theorem draws_range {prog : Program} {w : World} {A : Around} (hh : A.handled = none) (it : Addr) (lo c : Int) (n : Nat) :
    Draws prog w A it [it] n (fun i v => ∃ t, v = .int (lo + (i : Nat) * c) t) (fun i h => IsRangeIter h it (lo + (i : Nat) * c) ((n : Int) - (i : Nat)) c) where
  live := fun _ _ st => ⟨_, st⟩
  frame := fun _ _ _ st hk => hk it (by simp) _ st
  item := fun i s Q E hi st hQ => by
    have hT : s.TypeIs (.ref it) "range_iterator" := ⟨_, st, rfl⟩
    unfold Builtin.SmallTypes.nextOf
    refine wpAny_bind (wpAny_callSpecial?_slot (name := Str.ofString "__next__") hT F.slot_range_iterator_next
      (call_meets F.slot_range_iterator_next hT F.entry_range_iterator_next (F.args_range_iterator_next_1 _) (AutoRange.range_iterator___next___range_iterator_1 it _ _ c (by omega)) ⟨st, ?_⟩))
    refine wpAny_pure (hQ _ _ (s.toks + 1) ⟨_, rfl⟩ ?_ ((Heap.SameBut.update ..).trans (Heap.SameBut.update ..)))
    have e1 : lo + ((i + 1 : Nat) : Int) * c = lo + (i : Int) * c + c := by rw [Int.natCast_add, Int.add_mul]; show lo + ((i : Int) * c + 1 * c) = _; rw [Int.one_mul, Int.add_assoc]
    have e2 : (n : Int) - ((i + 1 : Nat) : Int) = (n : Int) - (i : Int) - 1 := by omega
    rw [e1, e2]
    exact Heap.get?_update_self _ (Heap.get?_update_self _ st rfl) rfl
  done := fun s Q E st hE => by
    have hT : s.TypeIs (.ref it) "range_iterator" := ⟨_, st, rfl⟩
    unfold Builtin.SmallTypes.nextOf
    refine wpAny_bind (wpAny_callSpecial?_slot (name := Str.ofString "__next__") hT F.slot_range_iterator_next
      (wpAny_call_entry F.slot_range_iterator_next hT F.entry_range_iterator_next ?_ (F.args_range_iterator_next_1 _)))
    show wpAny _ _ (field (.ref it) 0 >>= _) _ _ s
    refine wpAny_bind (wpAny_field st rfl (x := rawInt (lo + (n : Nat) * c)) rfl ?_)
    show wpAny _ _ (field (.ref it) 1 >>= _) _ _ s
    refine wpAny_bind (wpAny_field st rfl (x := rawInt ((n : Int) - (n : Nat))) rfl ?_)
    show wpAny _ _ (field (.ref it) 2 >>= _) _ _ s
    refine wpAny_bind (wpAny_field st rfl (x := rawInt c) rfl ?_)
    show wpAny _ _ (if (n : Int) - (n : Nat) ≤ 0 then _ else _) _ _ s
    rw [if_pos (by omega)]
    refine wpAny_bind (wpAny_rule ?_)
    refine wpAny_bind ?_
    show wpAny _ _ (newExc (.type "StopIteration") [] >>= _) _ _ _
    refine wpAny_bind ?_
    simp only [newExc, newTuple]
    refine wpAny_bind (wpAny_newObj_type ?_ (by size_fits))
    refine wpAny_bind (m := firstArgMember _ _) (wpAny_of_eq (a := Value.none) (by first | rfl | (simp only [firstArgMember]; rfl)) ?_)
    refine wpAny_newObj_type ?_ (by size_fits)
    simp only [raiseNew]
    refine wpAny_bind (wpAny_handled ?_)
    first | rw [show A.in1.handled = none from hh] | rw [hh]
    refine wpAny_bind (wpAny_pure (wpAny_throw ?_))
    exact hE _ _ (((Heap.ExtBut.refl it s.heap).push _).push _) ⟨_, Heap.get?_push_size _ rfl, rfl⟩
theorem begins_range {r : Addr} {a b c : Int} {t u v : Tok} (h : Builtin.Range.small a b c = true) :
    Begins (.ref r) { cls := .type "range_iterator", data := .fields #[rawInt a, rawInt (Builtin.Range.rangeSize a b c), rawInt c] } fun h => IsRange h r a b c t u v where
  iter := fun prog w A E s Q hr q => wpAny_pyIter_range hr h q
  keeps := fun _ _ x hk => hk r _ x
  free := rfl

/-- what a zip draws from -/
inductive Sr
  | t (a : Addr)
  | l (a : Addr)
  | r (lo c : Int) (n : Nat)
def Sr.has (K : PySem.W.Frag) : Sr → Hp → List V → Prop
  | .t a, H, xs => SqT K H a xs
  | .l a, H, xs => SqL K H a xs
  | .r lo c n, _, xs => xs = (List.range n).map fun (i : Nat) => V.int (lo + (i : Int) * c)
def Sr.tn : Sr → Addr → Nat → Heap → Prop
  | .t a, it, i, h => h.IsTupleIter it a i
  | .l a, it, i, h => h.IsListIter it a i
  | .r lo c n, it, i, h => IsRangeIter h it (lo + (i : Nat) * c) ((n : Int) - (i : Nat)) c
def Sr.own : Sr → Addr → Prop
  | .t a, b => b = a
  | .l a, b => b = a
  | .r _ _ _, _ => False
theorem Sr.tn_at {S : Sr} {it : Addr} {i : Nat} {h h' : Heap} (t : S.tn it i h) (k : ∀ o, h.get? it = some o → h'.get? it = some o) : S.tn it i h' := by
  cases S with
  | t a => exact Heap.IsTupleIter.at t k
  | l a => exact Heap.IsListIter.at t k
  | r lo c n => exact k _ t
theorem Sr.tn_obj {S : Sr} {it : Addr} {i : Nat} {h : Heap} (t : S.tn it i h) : ∃ o, h.get? it = some o ∧ ∀ v, o.data ≠ .cell v := by
  cases S with
  | t a => obtain ⟨o, e, _, d⟩ := t; exact ⟨o, e, fun v q => by rw [d] at q; cases q⟩
  | l a => obtain ⟨o, e, _, d⟩ := t; exact ⟨o, e, fun v q => by rw [d] at q; cases q⟩
  | r lo c n => exact ⟨_, t, fun v q => by have q' : Data.fields _ = Data.cell v := q; cases q'⟩
theorem Sr.inj {X : Cx} {pins : List (Addr × Obj)} {σ : L2.St} {H : Hp} {s : Shared} {S : Sr} {xs ys : List V} (I : Inv X pins σ H s) (h1 : S.has X.K H xs) (h2 : S.has X.K H ys) : xs = ys := by
  cases S with
  | t a => exact I.tuple_inj h1 h2
  | l a => exact I.list_inj h1 h2
  | r lo c n => exact Eq.trans h1 (Eq.symm h2)
theorem sr_draws {X : Cx} {pins : List (Addr × Obj)} {σ : L2.St} {H : Hp} {s : Shared} {S : Sr} {xs : List V} {it : Addr} {i : Nat} (hc : X.calm = true) (I : Inv X pins σ H s) (hS : S.has X.K H xs) (ht : S.tn it i s.heap) (hn : ¬ S.own it) :
    ∃ (fp : List Addr) (P : Nat → Value → Prop) (St : Nat → Heap → Prop), Draws X.prog X.w X.A.in1 it fp xs.length P St ∧ St i s.heap ∧ (∀ j v, P j v → ∃ x, xs[j]? = some x ∧ RelV x v) ∧ (∀ j h, St j h → S.tn it j h) ∧ it ∈ fp ∧ ∀ b ∈ fp, b = it ∨ S.own b := by
  cases S with
  | t a =>
    obtain ⟨its, rv, p, hz⟩ := I.tuple hS
    have hl := rv.length
    have D := Draws.tuple (prog := X.prog) (w := X.w) (A := X.A.in1) (I.ok.hd hc) it a (fun e => hn e.symm) its.toArray
    rw [List.size_toArray, ← hl] at D
    refine ⟨_, _, _, D, ⟨ht, p⟩, fun j v e => ?_, fun j h st => st.1, by simp, fun b hb => ?_⟩
    · have e' : its[j]? = some v := by simpa using e
      have hj : j < xs.length := by
        have := (List.getElem?_eq_some_iff.mp e').1
        omega
      obtain ⟨u, hu, ru⟩ := rv.get (List.getElem?_eq_getElem hj)
      rw [e'] at hu
      cases hu
      exact ⟨xs[j], List.getElem?_eq_getElem hj, ru⟩
    · have : b = it ∨ b = a := by simpa using hb
      exact this
  | l a =>
    obtain ⟨its, rv, p, hz⟩ := I.list hS
    have hl := rv.length
    have D := Draws.list (prog := X.prog) (w := X.w) (A := X.A.in1) (I.ok.hd hc) it a (fun e => hn e.symm) its.toArray
    rw [List.size_toArray, ← hl] at D
    refine ⟨_, _, _, D, ⟨ht, p.isList⟩, fun j v e => ?_, fun j h st => st.1, by simp, fun b hb => ?_⟩
    · have e' : its[j]? = some v := by simpa using e
      have hj : j < xs.length := by
        have := (List.getElem?_eq_some_iff.mp e').1
        omega
      obtain ⟨u, hu, ru⟩ := rv.get (List.getElem?_eq_getElem hj)
      rw [e'] at hu
      cases hu
      exact ⟨xs[j], List.getElem?_eq_getElem hj, ru⟩
    · have : b = it ∨ b = a := by simpa using hb
      exact this
  | r lo c n =>
    have hS : xs = (List.range n).map fun (i : Nat) => V.int (lo + (i : Int) * c) := hS
    subst hS
    have D := draws_range (prog := X.prog) (w := X.w) (A := X.A.in1) (I.ok.hd hc) it lo c n
    have el : n = ((List.range n).map fun (i : Nat) => V.int (lo + (i : Int) * c)).length := by simp
    refine ⟨[it], fun j v => j < n ∧ ∃ t, v = .int (lo + (j : Nat) * c) t, _, ⟨D.live, D.frame, fun i s Q E hi st hQ => D.item i s Q E (by omega) st fun x h' tk q a b => hQ x h' tk ⟨by omega, q⟩ a b, fun s Q E st hE => D.done s Q E (by rw [← el] at st; exact st) hE⟩, ht, fun j v e => ?_, fun j h st => st, by simp, fun b hb => .inl (by simpa using hb)⟩
    obtain ⟨hj, t, rfl⟩ := e
    exact ⟨.int (lo + (j : Int) * c), by rw [List.getElem?_map, List.getElem?_range hj]; rfl, t, rfl⟩

/-- the five cells of a zip lie apart from all -/
structure ZA (z TI TO i1 i2 : Addr) (S1 S2 : Sr) : Prop where
  d : [z, TI, TO, i1, i2].Nodup
  o1 : ∀ b, S1.own b → b ∉ [z, TI, TO, i1, i2]
  o2 : ∀ b, S2.own b → b ∉ [z, TI, TO, i1, i2]
def ItzG (K : PySem.W.Frag) (S1 S2 : Sr) : It :=
  ⟨fun i H => ∃ (xs ys : List V) (x y : V), S1.has K H xs ∧ S2.has K H ys ∧ xs[i]? = some x ∧ ys[i]? = some y,
    fun i H v H' => ∃ T x y, v = .ref T ∧ H T = none ∧ H' = upd H T (.tup [x, y]) ∧ (∀ xs, S1.has K H xs → xs[i]? = some x) ∧ ∀ ys, S2.has K H ys → ys[i]? = some y,
    fun i H => ∃ xs ys : List V, S1.has K H xs ∧ S2.has K H ys ∧ i = min xs.length ys.length⟩
theorem ZA.sep {z TI TO i1 i2 : Addr} {S1 S2 : Sr} (Z : ZA z TI TO i1 i2 S1 S2) {fp1 fp2 : List Addr} (m1 : i1 ∈ fp1) (m2 : i2 ∈ fp2) (h1 : ∀ b ∈ fp1, b = i1 ∨ S1.own b) (h2 : ∀ b ∈ fp2, b = i2 ∨ S2.own b) : ZipSep2 z TI TO i1 i2 fp1 fp2 := by
  obtain ⟨d, o1, o2⟩ := Z
  simp only [List.nodup_cons, List.mem_cons, List.not_mem_nil, or_false, not_or] at d
  obtain ⟨⟨d1, d2, d3, d4⟩, ⟨d5, d6, d7⟩, ⟨d8, d9⟩, d10, _⟩ := d
  have f1 : ∀ b ∈ [z, TI, TO, i1, i2], b ≠ i1 → b ∉ fp1 := fun b hb n q => by
    rcases h1 b q with e | e
    · exact n e
    · exact o1 b e hb
  have f2 : ∀ b ∈ [z, TI, TO, i1, i2], b ≠ i2 → b ∉ fp2 := fun b hb n q => by
    rcases h2 b q with e | e
    · exact n e
    · exact o2 b e hb
  exact ⟨fun e => d1 e.symm, fun e => d2 e.symm, d5, d6, m1, f1 z (by simp) d3, f1 TO (by simp) d8, d7, m2, f2 z (by simp) d4, f2 TO (by simp) d9, f2 i1 (by simp) d10, f1 i2 (by simp) (fun e => d10 e.symm)⟩
theorem turn_zipG {P : Program} {w : World} {K : PySem.W.Frag} {elts : List Expr} {kk : Nat} {tpos : Pos} {z TI TO i1 i2 : Addr} {S1 S2 : Sr} (Z : ZA z TI TO i1 i2 S1 S2) :
    Turn P w K (.Tuple elts kk tpos) (ItzG K S1 S2) [z, TI, TO, i1, i2] z (fun i h => IsZip h z TI TO .none ∧ IsPair h TI (.ref i1) (.ref i2) ∧ (∃ x y, IsPair h TO x y) ∧ S1.tn i1 i h ∧ S2.tn i2 i h) where
  mem := by simp
  obj := fun i h st c hc => by
    obtain ⟨hz, hTI, ⟨x, y, hTO⟩, h1, h2⟩ := st
    have e' : c = z ∨ c = TI ∨ c = TO ∨ c = i1 ∨ c = i2 := by simpa using hc
    rcases e' with q | q | q | q | q
    · rw [q]; exact ⟨_, hz, fun v q => nomatch q⟩
    · rw [q]; exact ⟨_, hTI, fun v q => nomatch q⟩
    · rw [q]; exact ⟨_, hTO, fun v q => nomatch q⟩
    · rw [q]; exact Sr.tn_obj h1
    · rw [q]; exact Sr.tn_obj h2
  keep := fun i h h' st k => by
    obtain ⟨hz, hTI, ⟨x, y, hTO⟩, h1, h2⟩ := st
    exact ⟨k z (by simp) _ hz, k TI (by simp) _ hTI, ⟨x, y, k TO (by simp) _ hTO⟩, Sr.tn_at h1 fun o q => k i1 (by simp) o q, Sr.tn_at h2 fun o q => k i2 (by simp) o q⟩
  item := by
    intro X hP hw hK hc i pins s σ H E I hf st hg
    subst hP hw hK
    obtain ⟨hz, hTI, ⟨x0, y0, hTO⟩, h1, h2⟩ := st
    obtain ⟨xs, ys, x, y, hqx, hqy, hx, hy⟩ := hg
    obtain ⟨fp1, P1, St1, D1, st1, r1, t1, m1, f1⟩ := sr_draws hc I hqx h1 fun e => Z.o1 _ e (by simp)
    obtain ⟨fp2, P2, St2, D2, st2, r2, t2, m2, f2⟩ := sr_draws hc I hqy h2 fun e => Z.o2 _ e (by simp)
    have S := Z.sep m1 m2 f1 f2
    have hzl : z < s.heap.objs.size := Heap.lt_size hz
    refine wpAny_pyNext_zipD2_item S D1 D2 hz hTI hTO st1 st2 (List.getElem?_eq_some_iff.mp hx).1 (List.getElem?_eq_some_iff.mp hy).1 fun u u2 h' tk p1 p2 z' TO' h1' h2' hT hsz hk => ?_
    obtain ⟨x', ex, ru⟩ := r1 _ _ p1
    obtain ⟨y', ey, ru2⟩ := r2 _ _ p2
    cases hx.symm.trans ex
    cases hy.symm.trans ey
    refine ⟨_, rfl, wpAny_letOwnedTupleGo_zip (s := { s with heap := h', toks := tk }) z' fun h'' z'' sb => ?_⟩
    have hT2 : h''.get? s.heap.objs.size = some { cls := .type "tuple", data := .seq #[u, u2] } := (sb.2 _ (Nat.ne_of_gt hzl)).trans hT
    have new : ObjOk X.prog X.w (upd H s.heap.objs.size (.tup [x, y])) h'' s.heap.objs.size (.tup [x, y]) :=
      ⟨by show 2 ≤ sizeLine; decide, [u, u2], .cons ru (.cons ru2 .nil), ⟨_, hT2, rfl, _, rfl⟩⟩
    have I1 : Inv X pins σ (upd H s.heap.objs.size (.tup [x, y])) { s with heap := h'', toks := tk } :=
      I.turnedNew (t' := tk) (ch := [z, TI, TO, i1, i2]) (fun c o hb q => (sb.2 c (fun q' => hb (by simp [q']))).trans (hk c o (fun q' => hb (by simp [q'])) (fun q' => hb (by simp [q'])) (fun q' => hb (by simp [q'])) (fun q' => hb (by simp [q'])) q)) hf (Nat.le_refl _) new
    refine ⟨.ref s.heap.objs.size, _, I1, rfl, ⟨_, x, y, rfl, I.hok.fresh (Nat.le_refl _), rfl, fun l hl => by rw [Sr.inj I hl hqx]; exact hx, fun l hl => by rw [Sr.inj I hl hqy]; exact hy⟩, ⟨z'', ?_, ⟨u, u2, ?_⟩, ?_, ?_⟩, fun c hcm => ?_⟩
    · exact (sb.2 _ S.TIz).trans (hk _ _ S.TIz S.TITO S.TIi1 S.TIi2 hTI)
    · exact (sb.2 _ S.TOz).trans TO'
    · exact Sr.tn_at (t1 _ _ h1') fun o q => (sb.2 _ S.zi1.symm).trans q
    · exact Sr.tn_at (t2 _ _ h2') fun o q => (sb.2 _ S.zi2.symm).trans q
    · have hlt : c < s.heap.objs.size := by
        have e' : c = z ∨ c = TI ∨ c = TO ∨ c = i1 ∨ c = i2 := by simpa using hcm
        rcases e' with q | q | q | q | q
        · rw [q]; exact hzl
        · rw [q]; exact Heap.lt_size hTI
        · rw [q]; exact Heap.lt_size hTO
        · rw [q]; obtain ⟨_, e1, _⟩ := Sr.tn_obj h1; exact Heap.lt_size e1
        · rw [q]; obtain ⟨_, e2, _⟩ := Sr.tn_obj h2; exact Heap.lt_size e2
      rw [upd_ne (Nat.ne_of_lt hlt)]
      exact (hf c hcm).1
  done := by
    intro X hP hw hK hc i pins s σ H E I hf st hg
    subst hP hw hK
    obtain ⟨hz, hTI, ⟨x0, y0, hTO⟩, h1, h2⟩ := st
    obtain ⟨xs, ys, hqx, hqy, hend⟩ := hg
    obtain ⟨fp1, P1, St1, D1, st1, r1, t1, m1, f1⟩ := sr_draws hc I hqx h1 fun e => Z.o1 _ e (by simp)
    obtain ⟨fp2, P2, St2, D2, st2, r2, t2, m2, f2⟩ := sr_draws hc I hqy h2 fun e => Z.o2 _ e (by simp)
    exact wpAny_pyNext_zipD2_end (Z.sep m1 m2 f1 f2) D1 D2 hz hTI hTO st1 st2 (by omega) (by omega) (by omega) fun h' tk hk => ⟨rfl, I.turnedL (t' := tk) (ch := [z, TI, TO, i1, i2]) (fun c o hb q =>
      hk c o (fun q' => hb (by simp [q'])) (fun q' => hb (by simp [q'])) (fun q' => hb (by simp [q'])) (fun q' => hb (by simp [q'])) q) hf⟩
  self := fun A i s Q E st h => wpAny_pyIter_zip st.1 h
theorem walk_zipG {K : PySem.W.Frag} {S1 S2 : Sr} {xs ys : List V} {n : Nat} (hn : n = min xs.length ys.length) : Walk (ItzG K S1 S2) n (fun H => S1.has K H xs ∧ S2.has K H ys) (YPair (fun i => xs[i]?) (fun i => ys[i]?)) := by
  subst hn
  refine ⟨fun i _ hi q => ?_, fun _ q => ⟨xs, ys, q.1, q.2, rfl⟩, fun i H v H' _ q y => ?_⟩
  · have h1 : i < xs.length := by omega
    have h2 : i < ys.length := by omega
    exact ⟨xs, ys, xs[i], ys[i], q.1, q.2, by simp [h1], by simp [h2]⟩
  · obtain ⟨T, x, z, h1, h2, h3, h4, h5⟩ := y
    exact ⟨T, x, z, h1, h2, h3, h4 xs q.1, h5 ys q.2⟩
/-- a tuple or a list as an argument -/
inductive SrV (K : PySem.W.Frag) (H : Hp) : V → Sr → Prop
  | t {a : Addr} {xs : List V} (h : SqT K H a xs) : SrV K H (.ref a) (.t a)
  | l {a : Addr} {xs : List V} (h : SqL K H a xs) : SrV K H (.ref a) (.l a)
theorem SrV.begin {X : Cx} {pins : List (Addr × Obj)} {σ : L2.St} {H : Hp} {s : Shared} {v : V} {u : Value} {S : Sr} (I : Inv X pins σ H s) (h : SrV X.K H v S) (r : RelV v u) :
    ∃ (o : Obj) (G : Heap → Prop), Begins u o G ∧ G s.heap ∧ (∀ h' it, h'.get? it = some o → S.tn it 0 h') ∧ ∀ b, S.own b → b < s.heap.objs.size := by
  cases h with
  | t h =>
    cases r
    obtain ⟨its, rv, p, hz⟩ := I.tuple h
    obtain ⟨o, ho, _⟩ := id p
    exact ⟨_, _, begins_tuple _ its.toArray, p, fun h' it e => ⟨_, e, rfl, rfl⟩, fun b e => by rw [show b = _ from e]; exact Heap.lt_size ho⟩
  | l h =>
    cases r
    obtain ⟨its, rv, p, hz⟩ := I.list h
    exact ⟨_, _, begins_list _ its.toArray, p.isList, fun h' it e => ⟨_, e, rfl, rfl⟩, fun b e => by rw [show b = _ from e]; exact p.lt⟩
theorem nod5 (n : Nat) : [n + 4, n + 2, n + 3, n, n + 1].Nodup := by
  simp only [List.nodup_cons, List.mem_cons, List.not_mem_nil, or_false, not_or, List.nodup_nil, and_true, not_false_eq_true]
  omega
theorem not5 {n b : Nat} (h : b < n) : b ∉ [n + 4, n + 2, n + 3, n, n + 1] := fun hm => by
  have e : b = n + 4 ∨ b = n + 2 ∨ b = n + 3 ∨ b = n ∨ b = n + 1 := by simpa using hm
  omega
theorem zip_ready {X : Cx} {pins : List (Addr × Obj)} {σ : L2.St} {H : Hp} {s : Shared} {u1 u2 : Value} {S1 S2 : Sr} {o1 o2 : Obj} {G1 G2 : Heap → Prop} {elts : List Expr} {kk : Nat} {tpos : Pos} {R : It → Hp → Prop} (I : Inv X pins σ H s)
    (B1 : Begins u1 o1 G1) (B2 : Begins u2 o2 G2) (g1 : G1 s.heap) (g2 : G2 s.heap) (t1 : ∀ h' it, h'.get? it = some o1 → S1.tn it 0 h') (t2 : ∀ h' it, h'.get? it = some o2 → S2.tn it 0 h')
    (w1 : ∀ b, S1.own b → b < s.heap.objs.size) (w2 : ∀ b, S2.own b → b < s.heap.objs.size) (q : R (ItzG X.K S1 S2) H) :
    wpAny (model X.prog X.w) X.A (call (.type "zip") [u1, u2]) (fun v s1 => wpAny (model X.prog X.w) X.A (pyIter v) (PIE X pins σ (.Tuple elts kk tpos) R) X.xe s1) X.xe s := by
  refine zip_begins2 B1 B2 g1 g2 fun h' hz hTI hTO h1 h2 hsz hk => wpAny_pyIter_zip hz ?_
  have I2 : Inv X pins σ H { s with heap := h' } := I.kept (t' := s.toks) hk
  have fresh5 : ∀ c, c ∈ [s.heap.objs.size + 4, s.heap.objs.size + 2, s.heap.objs.size + 3, s.heap.objs.size, s.heap.objs.size + 1] → FpOk X pins H c := fun c hcm => by
    have e' : c = s.heap.objs.size + 4 ∨ c = s.heap.objs.size + 2 ∨ c = s.heap.objs.size + 3 ∨ c = s.heap.objs.size ∨ c = s.heap.objs.size + 1 := by simpa using hcm
    have hle : s.heap.objs.size ≤ c := by omega
    exact I.fpOk hle (I.hok.fresh hle)
  refine ⟨s.heap.objs.size + 4, [s.heap.objs.size + 4, s.heap.objs.size + 2, s.heap.objs.size + 3, s.heap.objs.size, s.heap.objs.size + 1], _, _, H, rfl, I2, turn_zipG ⟨?_, ?_, ?_⟩, ⟨hz, hTI, ⟨_, _, hTO⟩, t1 _ _ h1, t2 _ _ h2⟩, fresh5, q⟩
  · exact nod5 _
  · exact fun b hb => not5 (w1 b hb)
  · exact fun b hb => not5 (w2 b hb)
/-- zip of two of tuples and lists -/
def iZipG (K : PySem.W.Frag) (ta : TA) : TI := fun σ H R => ta σ H fun vs H1 => ∃ x y S1 S2, vs = [x, y] ∧ SrV K H1 x S1 ∧ SrV K H1 y S2 ∧ R (ItzG K S1 S2) H1
theorem pi_zipG {X : Cx} {e e2 : Expr} {ta : TA} {p pos tpos : Pos} {elts : List Expr} {kk : Nat} (hg : Gl X "zip") (hm : X.mg "zip" = none) (ha : PA X [e, e2] ta)
    (hs : starEach [e, e2] X.env = (false, eval e X.env) :: starEach [e2] X.env := by rfl) (hpl : (backTo pos (starEach [e2] X.env)).any (·.1) = false := by rfl) :
    PI X (.Tuple elts kk tpos) (.Call (.Name "zip" p) [e, e2] [] pos) (iZipG X.K ta) := by
  refine ⟨fun pins s σ H R I h => ?_⟩
  refine Call_ (ld_blt I hg hm PyProof.Rows.boot_zip (PyProof.Rows.callWith_type1 (thn (ha.run pos pins s σ H _ I h) fun us s1 ⟨vs, H1, I1, r1, q1⟩ => ?_) hs hpl))
  obtain ⟨x, y, S1, S2, ex, v1, v2, q⟩ := q1
  subst ex
  cases r1 with
  | cons r rr =>
    cases rr with
    | cons r' rr =>
      cases rr
      obtain ⟨o1, G1, B1, g1, t1, w1⟩ := v1.begin I1 r
      obtain ⟨o2, G2, B2, g2, t2, w2⟩ := v2.begin I1 r'
      exact zip_ready I1 B1 B2 g1 g2 t1 t2 w1 w2 q
/-- zip of a tuple or list and a range of three words -/
def iZipR (K : PySem.W.Frag) (te : TE) (ta : TA) : TI := fun σ H R => te σ H fun x H1 => ta σ H1 fun vs H2 => ∃ (S : Sr) (i j c : Int) (n : Nat), vs = [.int i, .int j, .int c] ∧ RgC i j c n ∧ SrV K H2 x S ∧ R (ItzG K S (.r i c n)) H2
theorem pi_zipR {X : Cx} {e a b c : Expr} {te : TE} {ta : TA} {p p2 q2 pos tpos : Pos} {elts : List Expr} {kk : Nat} (hg : Gl X "zip") (hm : X.mg "zip" = none) (hg2 : Gl X "range") (hm2 : X.mg "range" = none) (he : PE X e te) (ha : PA X [a, b, c] ta)
    (hs2 : starEach [a, b, c] X.env = (false, eval a X.env) :: starEach [b, c] X.env := by rfl) (hpl2 : (backTo q2 (starEach [b, c] X.env)).any (·.1) = false := by rfl)
    (hs : starEach [e, .Call (.Name "range" p2) [a, b, c] [] q2] X.env = (false, eval e X.env) :: starEach [.Call (.Name "range" p2) [a, b, c] [] q2] X.env := by rfl)
    (hs3 : starEach [.Call (.Name "range" p2) [a, b, c] [] q2] X.env = (false, eval (.Call (.Name "range" p2) [a, b, c] [] q2) X.env) :: starEach [] X.env := by rfl)
    (hpl : (backTo pos (starEach [.Call (.Name "range" p2) [a, b, c] [] q2] X.env)).any (·.1) = false := by rfl) :
    PI X (.Tuple elts kk tpos) (.Call (.Name "zip" p) [e, .Call (.Name "range" p2) [a, b, c] [] q2] [] pos) (iZipR X.K te ta) := by
  refine ⟨fun pins s σ H R I h => ?_⟩
  refine Call_ (ld_blt I hg hm PyProof.Rows.boot_zip (PyProof.Rows.callWith_type1 (PyProof.Rows.args_cons (thn (he.run pins s σ H _ I h) fun v s1 ⟨x, H1, I1, r1, q1⟩ => PyProof.Rows.args_cons (Call_ (ld_blt I1 hg2 hm2 boot_range (PyProof.Rows.callWith_type1 (thn (ha.run q2 pins s1 σ H1 _ I1 q1) fun us s2 ⟨vs, H2, I2, r2, q3⟩ => ?_) hs2 hpl2))) hs3) hs) hs hpl))
  obtain ⟨S, i, j, k, n, e, ⟨c0, c1, c2, c3⟩, v1, q⟩ := q3
  subst e
  cases r2 with
  | cons r rr =>
    cases rr with
    | cons r' rr =>
      cases rr with
      | cons r'' rr =>
        cases rr
        obtain ⟨t, rfl⟩ := r
        obtain ⟨t', rfl⟩ := r'
        obtain ⟨t'', rfl⟩ := r''
        refine call_range_3 c0 (PyProof.Rows.args_nil ?_) (.inl (PyProof.noPylong_small c1))
        have I3 : Inv X pins σ H2 { s2 with heap := s2.heap.push { cls := .type "range", data := .fields #[.int i t, .int j t', .int k t''] } } := I2.kept (t' := s2.toks) fun b o e => Heap.get?_push_of_some _ e
        obtain ⟨o1, G1, B1, g1, t1, w1⟩ := v1.begin I3 r1
        refine zip_ready (S2 := .r i k n) I3 B1 (begins_range c2) g1 (IsRange.new _ _ _ _ _ _ _) t1 (fun h' it eo => ?_) w1 (fun b hb => False.elim (show False from hb)) q
        have e1 : i + ((0 : Nat) : Int) * k = i := by simp
        have e2 : (n : Int) - ((0 : Nat) : Int) = Builtin.Range.rangeSize i j k := by rw [c3]; simp
        show IsRangeIter _ _ (i + ((0 : Nat) : Int) * k) ((n : Int) - ((0 : Nat) : Int)) k
        rw [e1, e2]
        exact eo
end Gk
namespace Gk
open PySem L2 PyProof.Rows
/-! small data: shown, laid, compared -/
structure Sm (d : PyData) (k n : Nat) : Prop where
  s : d.showable = true
  dp : d.depth ≤ k
  w : wt d ≤ n
  l : d.canLay0 = true
structure SmAll (ds : List PyData) (k n : Nat) : Prop where
  s : PyData.showableAll ds = true
  dp : PyData.depthAll ds ≤ k
  w : wtAll ds ≤ n
  l : PyData.canLayAll0 ds = true
theorem sm_int {i : Int} (h : i.natAbs < 2 ^ 64) : Sm (.int i) 1 66 := by
  have g := log_of h (by decide)
  refine ⟨?_, ?_, ?_, rfl⟩
  · simp only [PyData.showable, decide_eq_true_eq]; omega
  · simp only [PyData.depth]; omega
  · simp only [wt]; omega
theorem sm_bl (b : Bool) : Sm (.bool b) 1 5 := by
  refine ⟨rfl, ?_, ?_, rfl⟩
  · simp only [PyData.depth]; omega
  · simp only [wt]; omega
theorem sm_nil : SmAll [] 0 0 := by
  refine ⟨rfl, ?_, ?_, rfl⟩
  · simp only [PyData.depthAll]; omega
  · simp only [wtAll]; omega
theorem sm_cons {d : PyData} {ds : List PyData} {k n k' n' : Nat} (h : Sm d k n) (h' : SmAll ds k' n') : SmAll (d :: ds) (max k k') (n + 2 + n') := by
  obtain ⟨a1, a2, a3, a4⟩ := h
  obtain ⟨b1, b2, b3, b4⟩ := h'
  refine ⟨?_, ?_, ?_, ?_⟩
  · simp only [PyData.showableAll, a1, b1, Bool.and_self]
  · simp only [PyData.depthAll]; omega
  · simp only [wtAll]; omega
  · simp only [PyData.canLayAll0, a4, b4, Bool.and_self]
theorem sm_tup {ds : List PyData} {k n : Nat} (h : SmAll ds k n) : Sm (.tuple ds) (k + 1) (n + 3) := by
  obtain ⟨b1, b2, b3, b4⟩ := h
  refine ⟨?_, ?_, ?_, ?_⟩
  · simp only [PyData.showable, b1]
  · simp only [PyData.depth]; omega
  · simp only [wt]; omega
  · simp only [PyData.canLay0, b4]
theorem sm_lst {ds : List PyData} {k n : Nat} (h : SmAll ds k n) : Sm (.list ds) (k + 1) (n + 2) := by
  obtain ⟨b1, b2, b3, b4⟩ := h
  refine ⟨?_, ?_, ?_, ?_⟩
  · simp only [PyData.showable, b1]
  · simp only [PyData.depth]; omega
  · simp only [wt]; omega
  · simp only [PyData.canLay0, b4]
def pdI (ns : List Int) : List PyData := ns.map PyData.int
theorem sm_ints : ∀ {ns : List Int}, (∀ i ∈ ns, i.natAbs < 2 ^ 64) → SmAll (pdI ns) 1 (68 * ns.length)
  | [], _ => ⟨rfl, by simp only [pdI, List.map_nil, PyData.depthAll]; omega, by simp only [pdI, List.map_nil, wtAll]; omega, rfl⟩
  | i :: r, h => by
    have a := sm_cons (sm_int (h i (by simp))) (sm_ints (ns := r) fun j hj => h j (by simp [hj]))
    refine ⟨a.s, ?_, ?_, a.l⟩
    · have := a.dp; show PyData.depthAll (PyData.int i :: pdI r) ≤ 1; omega
    · have := a.w; show wtAll (PyData.int i :: pdI r) ≤ 68 * (r.length + 1); omega
theorem Sm.rp {d : PyData} {k n : Nat} (h : Sm d k n) (hk : k ≤ 60) (hn : n ≤ 16000000) : d.showable = true ∧ d.depth ≤ 60 ∧ d.shown.length ≤ sizeLine :=
  ⟨h.s, Nat.le_trans h.dp hk, shows h.w hn⟩
theorem Sm.shaped {d : PyData} {k n : Nat} (h : Sm d k n) (hk : k ≤ 64) : SeqAt.shaped d = true := by
  unfold SeqAt.shaped
  rw [h.l, Bool.true_and]
  exact decide_eq_true (Nat.le_trans h.dp hk)
theorem Sm.refl {d : PyData} {k n : Nat} (h : Sm d k n) : PyData.eqv d d = true := SeqAt.eqv_refl _ h.l
theorem dp_ints {K : PySem.W.Frag} {H : Hp} : ∀ ns : List Int, DpAll K H (ns.map V.int) (pdI ns)
  | [] => .nil
  | i :: r => .cons (.int i) (dp_ints r)
theorem eqv_nil (x : PyData) (r : List PyData) : PyData.eqv (.list (x :: r)) (.list []) = false := by
  simp only [PyData.eqv, PyData.eqvAll]
theorem eqv_nil2 : PyData.eqv (.list []) (.list []) = true := by
  simp only [PyData.eqv, PyData.eqvAll]
/-- what repr asks, of small data -/
theorem rp_ok {K : PySem.W.Frag} {H : Hp} {x : V} {d : PyData} {k n : Nat} {Q : VK} (hd : Dp K H x d) (h : Sm d k n) (q : Q (.str d.shown) H) (hk : k ≤ 60 := by decide) (hn : n ≤ 16000000 := by first | decide | omega) : rRepr K [x] H Q :=
  ⟨x, d, rfl, hd, (h.rp hk hn).1, (h.rp hk hn).2.1, (h.rp hk hn).2.2, q⟩
theorem sm_wide {i : Int} (h : i.natAbs < 2 ^ 1000) : Sm (.int i) 1 1010 := by
  have g := log_of h (by decide)
  refine ⟨?_, ?_, ?_, rfl⟩
  · simp only [PyData.showable, decide_eq_true_eq]; omega
  · simp only [PyData.depth]; omega
  · simp only [wt]; omega
theorem lay_ints : ∀ ns : List Int, PyData.canLayAll0 (pdI ns) = true ∧ PyData.depthAll (pdI ns) = 0
  | [] => ⟨rfl, by simp only [pdI, List.map_nil, PyData.depthAll]⟩
  | i :: r => by
    obtain ⟨a, b⟩ := lay_ints r
    refine ⟨?_, ?_⟩
    · show PyData.canLayAll0 (PyData.int i :: pdI r) = true
      simp only [PyData.canLayAll0, PyData.canLay0, a, Bool.and_self]
    · show PyData.depthAll (PyData.int i :: pdI r) = 0
      simp only [PyData.depthAll, PyData.depth, b]; rfl
theorem shaped_ints (ns : List Int) : SeqAt.shaped (.list (pdI ns)) = true := by
  obtain ⟨a, b⟩ := lay_ints ns
  unfold SeqAt.shaped
  simp only [PyData.canLay0, a, PyData.depth, b]
  decide
theorem eqv_ints_nil (ns : List Int) : PyData.eqv (.list (pdI ns)) (.list []) = decide (ns = []) := by
  cases ns with
  | nil => exact eqv_nil2
  | cons i r => exact eqv_nil _ _
end Gk
namespace Gk
open PySem L2 PyProof.Rows
/-! helps of the walks, for every law -/
/-! small helps -/
theorem if_dec {p A B : Prop} [Decidable p] (h1 : p → A) (h2 : ¬ p → B) : if decide p = true then A else B := by
  by_cases h : p
  · rw [if_pos (decide_eq_true h)]; exact h1 h
  · rw [if_neg (by simpa using h)]; exact h2 h
theorem lc_yes {σ : L2.St} {H : Hp} {A B : Hp → Prop} (h : A H) : tYes σ H (fun b H3 => if b = true then A H3 else B H3) := by
  show (if true = true then A H else B H)
  rw [if_pos rfl]
  exact h
/-- while by an invariant, a measure, and what holds behind it -/
theorem while_go {c : TT} {tb : TS} {D : Ends} {σ : L2.St} {H : Hp} (Pv : L2.St → Hp → Prop) (μ : L2.St → Hp → Nat) (Dn : L2.St → Hp → Prop) (h0 : Pv σ H)
    (hs : ∀ σ H, Pv σ H → c σ H fun b H1 => if b = true then tb { D with nx := fun σ' H' => Pv σ' H' ∧ μ σ' H' < μ σ H, ct := fun σ' H' => Pv σ' H' ∧ μ σ' H' < μ σ H, bk := D.nx } σ H1 else Dn σ H1)
    (hd : ∀ σ H, Dn σ H → D.nx σ H) (mono : ∀ σ H Q Q', (∀ b H1, Q b H1 → Q' b H1) → c σ H Q → c σ H Q') : tWhile c tb D σ H :=
  while_by Pv μ h0 (fun σ H p => mono σ H _ _ (fun b H1 q => by
    cases b with
    | true => exact q
    | false => exact hd σ H1 q) (hs σ H p)) mono
theorem same_refl (H : Hp) : Same H H := fun _ _ e => e
theorem same_tup {K : PySem.W.Frag} {H H' : Hp} {a : Addr} {xs : List V} (e : Same H H') (h : SqT K H a xs) : SqT K H' a xs := by
  rcases h with h | h
  · rcases h with h | ⟨o, h⟩
    · exact .inl (.inl (e _ _ h))
    · exact .inl (.inr ⟨o, e _ _ h⟩)
  · exact .inr h
theorem same_new {H : Hp} {p : Addr} {o : HO} (h : H p = none) : Same H (upd H p o) := fun b x e => by
  rw [upd_ne (ne_of_none e h)]
  exact e
/-- an object that H does not know may change -/
theorem same_mut {H H' : Hp} {p : Addr} {o : HO} (e : Same H H') (h : H p = none) : Same H (upd H' p o) := fun b x q => by
  rw [upd_ne (ne_of_none q h)]
  exact e b x q
theorem same_back {H H' : Hp} {p : Addr} (e : Same H H') (h : H' p = none) : H p = none := by
  cases q : H p with
  | none => rfl
  | some o => rw [e p o q] at h; cases h
theorem mulG_r {i j : Int} {n : Nat} (h : j.natAbs < n) (hn : n ≤ 2 ^ 64 := by decide) : CMulG i j := .inr (.inl (Nat.lt_of_lt_of_le h hn))
theorem mulG_l {i j : Int} {n : Nat} (h : i.natAbs < n) (hn : n ≤ 2 ^ 64 := by decide) : CMulG i j := .inl (Nat.lt_of_lt_of_le h hn)
theorem divG {i j : Int} (h : 0 < j) (hb : j.natAbs < 2 ^ 64) : CDivW i j := wide_div (b := 64) h hb (by decide) (by decide)
theorem seq_cut {t1 t2 : TS} {D : Ends} {σ : L2.St} {H : Hp} (R : L2.St → Hp → Prop) (rest : ∀ σ' H', R σ' H' → t2 D σ' H') (main : (∀ σ' H', R σ' H' → t2 D σ' H') → tSeq t1 t2 D σ H) : tSeq t1 t2 D σ H := main rest
theorem ifs_both {tc : TT} {t u : TS} {D : Ends} {σ : L2.St} {H : Hp} (E F : Prop) (yes : E → t D σ H) (no : F → u D σ H) (main : (E → t D σ H) → (F → u D σ H) → tIfS tc t u D σ H) : tIfS tc t u D σ H := main yes no
/-- two ways on, the heap grown by the test -/
theorem ifs_hp {tc : TT} {t u : TS} {D : Ends} {σ : L2.St} {H : Hp} (E F : Prop) (yes : E → ∀ H2, Same H H2 → t D σ H2) (no : F → ∀ H2, Same H H2 → u D σ H2) (main : (E → ∀ H2, Same H H2 → t D σ H2) → (F → ∀ H2, Same H H2 → u D σ H2) → tIfS tc t u D σ H) : tIfS tc t u D σ H := main yes no
theorem gn_go {i : Nat} {v : V} {σ : L2.St} {H : Hp} {Q : L2.St → Hp → Prop} (h : Q (σ.set i (some v)) H) : gName i v σ H Q := h
theorem nx_go {f : L2.St → Hp → Prop} {rt : VK} {bk ct : L2.St → Hp → Prop} {σ : L2.St} {H : Hp} (h : f σ H) : ({ nx := f, rt := rt, bk := bk, ct := ct } : Ends).nx σ H := h
theorem next_go {D : Ends} {σ : L2.St} {H : Hp} (h : D.nx σ H) : tNext D σ H := h
theorem if_not_dec {p A B : Prop} [Decidable p] (h1 : ¬ p → A) (h2 : p → B) : if (!decide p) = true then A else B := by
  by_cases h : p
  · rw [if_neg (by simp [h])]; exact h2 h
  · rw [if_pos (by simp [h])]; exact h1 h
theorem if_ne_same {x y : V} {A B : Prop} (e : x = y) (h : B) : if (!decide (x = y)) = true then A else B := by
  rw [if_neg (by simp [e])]
  exact h
def iv (xs : List Nat) : List V := xs.map fun (a : Nat) => V.int (a : Int)
theorem iv_len (xs : List Nat) : (iv xs).length = xs.length := by unfold iv; rw [List.length_map]
theorem iv_get {xs : List Nat} {i a : Nat} (h : xs[i]? = some a) : (iv xs)[i]? = some (V.int (a : Int)) := by unfold iv; rw [List.getElem?_map, h]; rfl
theorem iv_at {xs : List Nat} {i : Nat} {x : V} (h : (iv xs)[i]? = some x) : ∃ a, xs[i]? = some a ∧ x = V.int (a : Int) := by
  unfold iv at h
  rw [List.getElem?_map] at h
  cases e : xs[i]? with
  | none => rw [e] at h; cases h
  | some a => rw [e] at h; exact ⟨a, rfl, (Option.some.inj h).symm⟩
theorem iv_app (xs ys : List Nat) : iv (xs ++ ys) = iv xs ++ iv ys := List.map_append
theorem cut_from (xs : List V) (n : Nat) : cutV xs (some (n : Int)) none = xs.drop n := by
  unfold cutV
  rw [HT.sIx_none, show HT.sIx xs.length 0 (some (n : Int)) = min n xs.length from HT.sIx_nat xs.length 0 n]
  by_cases h : n ≤ xs.length
  · rw [Nat.min_eq_left h, List.take_of_length_le (by rw [List.length_drop]; exact Nat.le_refl _)]
  · rw [Nat.min_eq_right (by omega), List.drop_eq_nil_of_le (Nat.le_refl _), List.drop_eq_nil_of_le (by omega), List.take_nil]
theorem cut_all {xs : List V} {n : Nat} (h : HT.sIx xs.length 0 (some (n : Int)) = 0 ∧ HT.sIx xs.length xs.length none = xs.length) : xs.drop n = xs := by
  have h1 := h.1
  rw [show HT.sIx xs.length 0 (some (n : Int)) = min n xs.length from HT.sIx_nat xs.length 0 n] at h1
  by_cases z : n = 0
  · subst z; rfl
  · have : xs.length = 0 := by omega
    rw [List.eq_nil_of_length_eq_zero this]; exact List.drop_nil
/-- a cut of a tuple: old or new -/
theorem cut_ok {K : PySem.W.Frag} {H : Hp} {a : Addr} {xs : List V} {n : Nat} {Q : VK} (hS : SqT K H a xs) (h : ∀ t H', Same H H' → SqT K H' t (xs.drop n) → Q (.ref t) H') : rSlA K (.ref a) (some (n : Int)) none H Q :=
  ⟨a, xs, rfl, hS, fun w => h a H (same_refl H) (by rw [cut_all w]; exact hS), fun _ p np => h p _ (same_new np) (by rw [cut_from]; exact SqT.of upd_same)⟩
/-- two tuples put together -/
theorem cat_ok {K : PySem.W.Frag} {H : Hp} {a b : Addr} {xs ys : List V} {Q : VK} (ha : SqT K H a xs) (hb : SqT K H b ys) (hl : xs.length + ys.length ≤ sizeLine) (h : ∀ t H', Same H H' → SqT K H' t (xs ++ ys) → Q (.ref t) H') : rCatA K (.ref a) (.ref b) H Q :=
  ⟨a, b, xs, ys, rfl, rfl, ha, hb, hl, fun e => h b H (same_refl H) (by rw [e]; exact hb), fun _ e => h a H (same_refl H) (by rw [e, List.append_nil]; exact ha), fun _ _ p np => h p _ (same_new np) (SqT.of upd_same)⟩
theorem rgV_nat (n : Nat) : rgV 0 (n : Int) = iv (List.range n) := by
  unfold rgV iv
  rw [show ((n : Int) - 0).toNat = n by omega]
  exact List.map_congr_left fun i _ => by rw [Int.zero_add]
theorem im_at {ns : List Int} {i : Nat} {x : V} (h : (ns.map V.int)[i]? = some x) : ∃ a, ns[i]? = some a ∧ x = V.int a := by
  rw [List.getElem?_map] at h
  cases e : ns[i]? with
  | none => rw [e] at h; cases h
  | some a => rw [e] at h; exact ⟨a, rfl, (Option.some.inj h).symm⟩
/-! the source of draws -/
def sd (c : Addr) (l m t : Int) : List (Key × V) := [(.inr "cells", .ref c), (.inr "left", .int l), (.inr "mixed", .int m), (.inr "turn", .int t)]
theorem s_lc : ¬ (("cells" : Str) = ("left" : Str)) := by decide +kernel
theorem n_lc : ¬ ((Sum.inr ("cells" : Str) : Key) = Sum.inr ("left" : Str)) := fun e => s_lc (Sum.inr.inj e)
theorem s_mc : ¬ (("cells" : Str) = ("mixed" : Str)) := by decide +kernel
theorem n_mc : ¬ ((Sum.inr ("cells" : Str) : Key) = Sum.inr ("mixed" : Str)) := fun e => s_mc (Sum.inr.inj e)
theorem s_tc : ¬ (("cells" : Str) = ("turn" : Str)) := by decide +kernel
theorem n_tc : ¬ ((Sum.inr ("cells" : Str) : Key) = Sum.inr ("turn" : Str)) := fun e => s_tc (Sum.inr.inj e)
theorem s_ml : ¬ (("left" : Str) = ("mixed" : Str)) := by decide +kernel
theorem n_ml : ¬ ((Sum.inr ("left" : Str) : Key) = Sum.inr ("mixed" : Str)) := fun e => s_ml (Sum.inr.inj e)
theorem s_tl : ¬ (("left" : Str) = ("turn" : Str)) := by decide +kernel
theorem n_tl : ¬ ((Sum.inr ("left" : Str) : Key) = Sum.inr ("turn" : Str)) := fun e => s_tl (Sum.inr.inj e)
theorem s_tm : ¬ (("mixed" : Str) = ("turn" : Str)) := by decide +kernel
theorem n_tm : ¬ ((Sum.inr ("mixed" : Str) : Key) = Sum.inr ("turn" : Str)) := fun e => s_tm (Sum.inr.inj e)
theorem s_mt : ¬ (("turn" : Str) = ("mixed" : Str)) := by decide +kernel
theorem n_mt : ¬ ((Sum.inr ("turn" : Str) : Key) = Sum.inr ("mixed" : Str)) := fun e => s_mt (Sum.inr.inj e)
theorem s_lm : ¬ (("mixed" : Str) = ("left" : Str)) := by decide +kernel
theorem n_lm : ¬ ((Sum.inr ("mixed" : Str) : Key) = Sum.inr ("left" : Str)) := fun e => s_lm (Sum.inr.inj e)
theorem s_lt : ¬ (("turn" : Str) = ("left" : Str)) := by decide +kernel
theorem n_lt : ¬ ((Sum.inr ("turn" : Str) : Key) = Sum.inr ("left" : Str)) := fun e => s_lt (Sum.inr.inj e)
theorem sd_cells (c : Addr) (l m t : Int) : valV (sd c l m t) (.inr "cells") = some (.ref c) := valV_pos rfl
theorem sd_left (c : Addr) (l m t : Int) : valV (sd c l m t) (.inr "left") = some (.int l) := (valV_neg n_lc).trans (valV_pos rfl)
theorem sd_mixed (c : Addr) (l m t : Int) : valV (sd c l m t) (.inr "mixed") = some (.int m) := (valV_neg n_mc).trans ((valV_neg n_ml).trans (valV_pos rfl))
theorem sd_turn (c : Addr) (l m t : Int) : valV (sd c l m t) (.inr "turn") = some (.int t) := (valV_neg n_tc).trans ((valV_neg n_tl).trans ((valV_neg n_tm).trans (valV_pos rfl)))
theorem sd_put_left (c : Addr) (l m t x : Int) : putK (sd c l m t) (.inr "left") (.int x) = sd c x m t := by
  unfold putK sd
  simp [s_lc, s_lm, s_lt]
theorem sd_put_mixed (c : Addr) (l m t x : Int) : putK (sd c l m t) (.inr "mixed") (.int x) = sd c l x t := by
  unfold putK sd
  simp [s_mc, s_ml, s_mt]
theorem sd_put_turn (c : Addr) (l m t x : Int) : putK (sd c l m t) (.inr "turn") (.int x) = sd c l m x := by
  unfold putK sd
  simp [s_tc, s_tl, s_tm]
theorem sd_make (c : Addr) (l m t : Int) : mergeK [] (sd c l m t) = sd c l m t := by
  unfold mergeK sd
  simp [putK, s_lc, s_mc, s_tc, s_ml, s_tl, s_tm]
theorem dget {H : Hp} {a : Addr} {kvs : List (Key × V)} {v : V} (k : Key) (e : H a = some (.dK kvs)) (h : valV kvs k = some v) : DGet H a (kV k) (some v) := h ▸ DGet.k e
section
variable {H : Hp} {p c : Addr} {l m t : Int}
theorem g_cells (h : H p = some (.dK (sd c l m t))) : DGet H p (.str "cells") (some (.ref c)) := dget (.inr "cells") h (sd_cells c l m t)
theorem g_left (h : H p = some (.dK (sd c l m t))) : DGet H p (.str "left") (some (.int l)) := dget (.inr "left") h (sd_left c l m t)
theorem g_mixed (h : H p = some (.dK (sd c l m t))) : DGet H p (.str "mixed") (some (.int m)) := dget (.inr "mixed") h (sd_mixed c l m t)
theorem g_turn (h : H p = some (.dK (sd c l m t))) : DGet H p (.str "turn") (some (.int t)) := dget (.inr "turn") h (sd_turn c l m t)
theorem p_left (h : H p = some (.dK (sd c l m t))) (x : Int) : DPut H p (.str "left") (.int x) (upd H p (.dK (sd c x m t))) := sd_put_left c l m t x ▸ DPut.k (k := .inr "left") h (by show (4 : Nat) < sizeLine; decide)
theorem p_mixed (h : H p = some (.dK (sd c l m t))) (x : Int) : DPut H p (.str "mixed") (.int x) (upd H p (.dK (sd c l x t))) := sd_put_mixed c l m t x ▸ DPut.k (k := .inr "mixed") h (by show (4 : Nat) < sizeLine; decide)
theorem p_turn (h : H p = some (.dK (sd c l m t))) (x : Int) : DPut H p (.str "turn") (.int x) (upd H p (.dK (sd c l m x))) := sd_put_turn c l m t x ▸ DPut.k (k := .inr "turn") h (by show (4 : Nat) < sizeLine; decide)
end
/-- a source at p, its cells at c -/
def Src (H : Hp) (p c : Addr) : Prop := ∃ (ns : List Int) (l m t : Int), H p = some (.dK (sd c l m t)) ∧ H c = some (.lst (ns.map V.int))
/-- all but the source stands -/
def But (p c : Addr) (H H' : Hp) : Prop := ∀ b o, b ≠ p → b ≠ c → H b = some o → H' b = some o
theorem Src.ne {H : Hp} {p c : Addr} (s : Src H p c) : p ≠ c := by
  obtain ⟨ns, l, m, t, h1, h2⟩ := s
  exact ne_of h1 h2 (by intro z; cases z)
theorem Src.same {H H' : Hp} {p c : Addr} (s : Src H p c) (e : Same H H') : Src H' p c := by
  obtain ⟨ns, l, m, t, h1, h2⟩ := s
  exact ⟨ns, l, m, t, e _ _ h1, e _ _ h2⟩
theorem Same.but {H H' : Hp} {p c : Addr} (e : Same H H') : But p c H H' := fun b o _ _ h => e b o h
/-- a tuple stays where the source alone changes -/
theorem but_tup {H H' : Hp} {p c t : Addr} {xs : List V} (s : Src H p c) (b : But p c H H') (h : H t = some (.tup xs)) : H' t = some (.tup xs) := by
  obtain ⟨ns, l, m, u, h1, h2⟩ := s
  exact b t _ (ne_of h h1 (by intro z; cases z)) (ne_of h h2 (by intro z; cases z)) h
/-- what a new object is not -/
theorem Src.new {H : Hp} {p c D : Addr} (s : Src H p c) (h : H D = none) : D ≠ p ∧ D ≠ c := by
  obtain ⟨ns, l, m, u, h1, h2⟩ := s
  exact ⟨fun e => by (rw [← e, h] at h1; cases h1), fun e => by (rw [← e, h] at h2; cases h2)⟩
theorem if_ne_bl {b b' : Bool} {A B : Prop} (e : b = b') (h : B) : if (!decide (V.bl b = V.bl b')) = true then A else B := if_ne_same (by rw [e]) h
theorem if_eqv {d : PyData} {A B : Prop} (e : PyData.eqv d d = true) (h : B) : if (!PyData.eqv d d) = true then A else B := by
  rw [e]
  exact h
theorem ixN_n {n j : Nat} (h : j < n) : ixN n (j : Int) = some j := by
  unfold ixN
  rw [if_pos (by omega), if_pos (by omega)]
  rfl
end Gk
namespace Gk
open PySem L2 PyProof.Rows
/-! sorted of a list of data, any length: the items as they stand, in the order of their data -/
def rSortD (K : PySem.W.Frag) : List V → Hp → VK → Prop := fun vs H Q => ∃ (a : Addr) (xs : List (V × PyData)), vs = [V.ref a] ∧ SqL K H a (xs.map Prod.fst) ∧ (∀ p ∈ xs, Dp K H p.1 p.2) ∧ PySem.W.AllAlike (xs.map Prod.snd) ∧ PySem.W.Sortable (xs.map Prod.snd) ∧
  (∀ p ∈ xs, p.2.depth ≤ 60) ∧ ∀ l, H l = none → Q (.ref l) (upd H l (.lst ((xs.mergeSort (PySem.W.dataLe false Prod.snd)).map Prod.fst)))
theorem each_vals : ∀ {xs : List (V × PyData)} {us : List Value}, Vals (xs.map Prod.fst) us → PySem.W.EachIs (fun v (b : V × PyData) => RelV b.1 v) us xs
  | [], _, h => by cases h; exact .nil
  | b :: r, _, h => by
    cases h with
    | cons h1 h2 => exact .cons h1 (each_vals h2)
theorem vals_each : ∀ {xs : List (V × PyData)} {us : List Value}, PySem.W.EachIs (fun v (b : V × PyData) => RelV b.1 v) us xs → Vals (xs.map Prod.fst) us
  | _, _, .nil => .nil
  | _, _, .cons h t => .cons h (vals_each t)
theorem each_reads {X : Cx} {pins : List (Addr × Obj)} {σ : L2.St} {H : Hp} {s : Shared} (I : Inv X pins σ H s) : ∀ {xs : List (V × PyData)} {us : List Value}, (∀ p ∈ xs, Dp X.K H p.1 p.2) → Vals (xs.map Prod.fst) us → PySem.W.EachIs (fun v (b : V × PyData) => ∃ as, Reads s.heap v b.2 as) us xs
  | [], _, _, h => by cases h; exact .nil
  | b :: r, _, hd, h => by
    cases h with
    | cons h1 h2 => exact .cons (Dp.reads I b.2 b.1 _ (hd b (by simp)) h1) (each_reads I (fun p hp => hd p (by simp [hp])) h2)
theorem cr_sortedD {X : Cx} (hu : X.A.units + 64 < cLine) : CallR X (.builtin "sorted") (rSortD X.K) := by
  intro pins s σ H vs us Q I r h
  obtain ⟨a, xs, rfl, hs, hd, hal, hk, hdep, q⟩ := h
  obtain ⟨its, rv, hl, hz⟩ := I.list hs
  rw [Vals.ref1 r]
  rw [List.length_map] at hz
  refine PySem.W.sorted_data hl.isList (each_vals rv) (each_reads I hd rv) hal hk hz (fun b hb => by have := hdep b hb; omega) fun out h1 h2 => ?_
  obtain ⟨ep, he'⟩ := PyProof.Rows.sortedAll_at s.heap its out.toArray
  have hlen : ((xs.mergeSort (PySem.W.dataLe false Prod.snd)).map Prod.fst).length ≤ sizeLine := by rw [List.length_map, List.length_mergeSort]; exact hz
  exact ⟨.ref _, upd H (s.heap.objs.size + 1) (.lst ((xs.mergeSort (PySem.W.dataLe false Prod.snd)).map Prod.fst)), I.laid (t' := s.toks) (fun _ _ => PyProof.Rows.sortedAll_old) (Nat.le_succ _) ⟨hlen, out, ep, vals_each h2, by simpa using he'⟩, rfl, q _ (I.hok.fresh (Nat.le_succ _))⟩
end Gk
namespace Gk
open PySem L2 PyProof.Rows
/-! data that stand on the heap, as they are made and kept -/
theorem same_seq {K : PySem.W.Frag} {H H' : Hp} {a : Addr} {xs : List V} (e : Same H H') (h : SqL K H a xs) : SqL K H' a xs := Same.seq e h
mutual
theorem dp_same {K : PySem.W.Frag} {H H' : Hp} (e : Same H H') : ∀ (d : PyData) (v : V), Dp K H v d → Dp K H' v d
  | .none, _, h => by cases h; exact .non
  | .bool b, _, h => by cases h; exact .bl b
  | .int i, _, h => by cases h; exact .int i
  | .str x, _, h => by cases h; exact .str x
  | .list ds, _, h => by
    cases h with
    | lst h1 h2 => exact .lst (same_seq e h1) (dpAll_same e ds _ h2)
  | .tuple ds, _, h => by
    cases h with
    | tup h1 h2 => exact .tup (same_tup e h1) (dpAll_same e ds _ h2)
  | .dict _, _, h => by cases h
theorem dpAll_same {K : PySem.W.Frag} {H H' : Hp} (e : Same H H') : ∀ (ds : List PyData) (vs : List V), DpAll K H vs ds → DpAll K H' vs ds
  | [], _, h => by cases h; exact .nil
  | d :: ds, _, h => by
    cases h with
    | cons h1 h2 => exact .cons (dp_same e d _ h1) (dpAll_same e ds _ h2)
end
/-! data without lists: they stay whatever lists and dicts do -/
mutual
def flatD : PyData → Bool
  | .none | .bool _ | .int _ | .str _ => true
  | .list _ | .dict _ => false
  | .tuple ds => flatAll ds
def flatAll : List PyData → Bool
  | [] => true
  | d :: ds => flatD d && flatAll ds
end
/-- H' knows all tuples that H knows -/
def Tups (H H' : Hp) : Prop := ∀ b xs, H b = some (.tup xs) ∨ (∃ o, H b = some (.frz o (.tup xs))) → H' b = some (.tup xs) ∨ ∃ o, H' b = some (.frz o (.tup xs))
theorem Tups.seq {K : PySem.W.Frag} {H H' : Hp} (e : Tups H H') {a : Addr} {xs : List V} (h : SqT K H a xs) : SqT K H' a xs := by
  rcases h with h | h
  · exact .inl (e a xs h)
  · exact .inr h
theorem Same.tups {H H' : Hp} (e : Same H H') : Tups H H' := fun b xs h => by
  rcases h with h | ⟨o, h⟩
  · exact .inl (e _ _ h)
  · exact .inr ⟨o, e _ _ h⟩
theorem Tups.refl (H : Hp) : Tups H H := fun _ _ h => h
theorem Tups.trans {H H1 H2 : Hp} (a : Tups H H1) (b : Tups H1 H2) : Tups H H2 := fun c xs h => b c xs (a c xs h)
/-- a list, a dict is written: tuples stay -/
theorem tups_lst {H : Hp} {p : Addr} {ys : List V} {o : HO} (h : H p = some (.lst ys)) : Tups H (upd H p o) := fun b xs q => by
  have n : b ≠ p := fun e => by
    subst e
    rcases q with q | ⟨o, q⟩ <;> (rw [h] at q; cases q)
  rw [upd_ne n]
  exact q
theorem tups_new {H : Hp} {p : Addr} {o : HO} (h : H p = none) : Tups H (upd H p o) := Same.tups (same_new h)
theorem Src.tups {H H' : Hp} {p c : Addr} (s : Src H p c) (b : But p c H H') : Tups H H' := fun a xs q => by
  obtain ⟨ns, l, m, t, h1, h2⟩ := s
  have n1 : a ≠ p := fun e => by
    subst e
    rcases q with q | ⟨o, q⟩ <;> (rw [h1] at q; cases q)
  have n2 : a ≠ c := fun e => by
    subst e
    rcases q with q | ⟨o, q⟩ <;> (rw [h2] at q; cases q)
  rcases q with q | ⟨o, q⟩
  · exact .inl (b _ _ n1 n2 q)
  · exact .inr ⟨o, b _ _ n1 n2 q⟩
mutual
theorem dp_tups {K : PySem.W.Frag} {H H' : Hp} (e : Tups H H') : ∀ (d : PyData) (v : V), flatD d = true → Dp K H v d → Dp K H' v d
  | .none, _, _, h => by cases h; exact .non
  | .bool b, _, _, h => by cases h; exact .bl b
  | .int i, _, _, h => by cases h; exact .int i
  | .str x, _, _, h => by cases h; exact .str x
  | .list ds, _, f, h => by simp [flatD] at f
  | .tuple ds, _, f, h => by
    cases h with
    | tup h1 h2 => exact .tup (e.seq h1) (dpAll_tups e ds _ (by simpa only [flatD] using f) h2)
  | .dict _, _, _, h => by cases h
theorem dpAll_tups {K : PySem.W.Frag} {H H' : Hp} (e : Tups H H') : ∀ (ds : List PyData) (vs : List V), flatAll ds = true → DpAll K H vs ds → DpAll K H' vs ds
  | [], _, _, h => by cases h; exact .nil
  | d :: ds, _, f, h => by
    have f : flatD d = true ∧ flatAll ds = true := by simpa only [flatAll, Bool.and_eq_true] using f
    cases h with
    | cons h1 h2 => exact .cons (dp_tups e d _ f.1 h1) (dpAll_tups e ds _ f.2 h2)
end
theorem flat_all {ds : List PyData} : flatAll ds = true ↔ ∀ d ∈ ds, flatD d = true := by
  induction ds with
  | nil => simp [flatAll]
  | cons d ds ih => simp [flatAll, ih]
/-! rows of data -/
theorem dpAll_len {K : PySem.W.Frag} {H : Hp} : ∀ {vs : List V} {ds : List PyData}, DpAll K H vs ds → vs.length = ds.length
  | _, _, .nil => rfl
  | _, _, .cons _ h => by rw [List.length_cons, List.length_cons, dpAll_len h]
theorem dpAll_get {K : PySem.W.Frag} {H : Hp} : ∀ {vs : List V} {ds : List PyData}, DpAll K H vs ds → ∀ {i : Nat} {v : V}, vs[i]? = some v → ∃ d, ds[i]? = some d ∧ Dp K H v d
  | _, _, .nil, _, _, h => by cases h
  | _, _, .cons h1 _, 0, _, h => by cases h; exact ⟨_, rfl, h1⟩
  | _, _, .cons _ h2, i + 1, _, h => by
    obtain ⟨d, e, q⟩ := dpAll_get h2 (show _ = some _ by simpa using h)
    exact ⟨d, by simpa using e, q⟩
theorem dpAll_get' {K : PySem.W.Frag} {H : Hp} : ∀ {vs : List V} {ds : List PyData}, DpAll K H vs ds → ∀ {i : Nat} {d : PyData}, ds[i]? = some d → ∃ v, vs[i]? = some v ∧ Dp K H v d
  | _, _, .nil, _, _, h => by cases h
  | _, _, .cons h1 _, 0, _, h => by cases h; exact ⟨_, rfl, h1⟩
  | _, _, .cons _ h2, i + 1, _, h => by
    obtain ⟨v, e, q⟩ := dpAll_get' h2 (show _ = some _ by simpa using h)
    exact ⟨v, by simpa using e, q⟩
theorem dpAll_app {K : PySem.W.Frag} {H : Hp} : ∀ {vs us : List V} {ds es : List PyData}, DpAll K H vs ds → DpAll K H us es → DpAll K H (vs ++ us) (ds ++ es)
  | _, _, _, _, .nil, h => h
  | _, _, _, _, .cons h1 h2, h => .cons h1 (dpAll_app h2 h)
theorem dpAll_one {K : PySem.W.Frag} {H : Hp} {v : V} {d : PyData} (h : Dp K H v d) : DpAll K H [v] [d] := .cons h .nil
theorem dpAll_drop {K : PySem.W.Frag} {H : Hp} : ∀ {vs : List V} {ds : List PyData} (n : Nat), DpAll K H vs ds → DpAll K H (vs.drop n) (ds.drop n)
  | _, _, 0, h => h
  | _, _, n + 1, .nil => .nil
  | _, _, n + 1, .cons _ h => dpAll_drop n h
theorem dpAll_take {K : PySem.W.Frag} {H : Hp} : ∀ {vs : List V} {ds : List PyData} (n : Nat), DpAll K H vs ds → DpAll K H (vs.take n) (ds.take n)
  | _, _, 0, _ => .nil
  | _, _, n + 1, .nil => .nil
  | _, _, n + 1, .cons h1 h => .cons h1 (dpAll_take n h)
theorem dpAll_mem {K : PySem.W.Frag} {H : Hp} {vs : List V} {ds : List PyData} (h : DpAll K H vs ds) {v : V} (hv : v ∈ vs) : ∃ d ∈ ds, Dp K H v d := by
  obtain ⟨i, hi⟩ := List.getElem?_of_mem hv
  obtain ⟨d, e, q⟩ := dpAll_get h hi
  exact ⟨d, List.mem_of_getElem? e, q⟩
/-- rows of whole numbers -/
theorem dpAll_ints {K : PySem.W.Frag} {H : Hp} : ∀ {vs : List V} {ns : List Int}, DpAll K H vs (pdI ns) → vs = ns.map V.int
  | _, [], h => by
    have h : DpAll K H _ [] := h
    cases h; rfl
  | _, n :: ns, h => by
    have h : DpAll K H _ (.int n :: pdI ns) := h
    cases h with
    | cons h1 h2 =>
      cases h1
      rw [dpAll_ints h2]; rfl
/-- a tuple of whole numbers -/
def tI (ns : List Int) : PyData := .tuple (pdI ns)
theorem dp_tI {K : PySem.W.Frag} {H : Hp} {t : Addr} {ns : List Int} (h : SqT K H t (ns.map V.int)) : Dp K H (.ref t) (tI ns) := .tup h (dp_ints ns)
theorem dp_tI_of {K : PySem.W.Frag} {H : Hp} {v : V} {ns : List Int} (h : Dp K H v (tI ns)) : ∃ t, v = .ref t ∧ SqT K H t (ns.map V.int) := by
  cases h with
  | tup h1 h2 => exact ⟨_, rfl, by rw [← dpAll_ints h2]; exact h1⟩
theorem dp_tup_of {K : PySem.W.Frag} {H : Hp} {v : V} {ds : List PyData} (h : Dp K H v (.tuple ds)) : ∃ t xs, v = .ref t ∧ SqT K H t xs ∧ DpAll K H xs ds := by
  cases h with
  | tup h1 h2 => exact ⟨_, _, rfl, h1, h2⟩
theorem flat_ints : ∀ ns : List Int, flatAll (pdI ns) = true
  | [] => by simp [pdI, flatAll]
  | n :: ns => by
    show flatAll (.int n :: pdI ns) = true
    simp [flatAll, flatD, flat_ints ns]
theorem flat_tI (ns : List Int) : flatD (tI ns) = true := by simp [tI, flatD, flat_ints]
end Gk
namespace Gk
open PySem L2 PyProof.Rows
/-! dict(xs), xs a list of pairs whose keys are tuples of ints and texts, no key twice -/
def PairsT (K : PySem.W.Frag) (H : Hp) : List Addr → List (List Key × V) → Prop := Paired fun p kv => ∃ q, SqT K H p [.ref q, kv.2] ∧ H q = some (.tup (kv.1.map kV))
theorem storedAllH_nodup {κ : Type} [DecidableEq κ] : ∀ (ps acc : List (κ × Addr × Value)), ((acc ++ ps).map (·.1)).Nodup → PySem.storedAllH acc ps = acc ++ ps
  | [], acc, _ => (List.append_nil acc).symm
  | p :: ps, acc, h => by
    have n : (acc ++ [p] ++ ps).map (·.1) = (acc ++ p :: ps).map (·.1) := by simp
    have e : PySem.storedH acc p.1 p.2.1 p.2.2 = acc ++ [p] := by
      refine PySem.storedH_new ?_ _ _
      have a : acc.find? (fun x => decide (x.1 = p.1)) = none := by
        rw [List.find?_eq_none]
        intro x hx hd
        rw [List.map_append, List.nodup_append] at h
        exact h.2.2 x.1 (List.mem_map.mpr ⟨x, hx, rfl⟩) p.1 (by simp) (of_decide_eq_true hd)
      show (acc.find? fun x => decide (x.1 = p.1)).map (·.2) = none
      rw [a]
      rfl
    show PySem.storedAllH (PySem.storedH acc p.1 p.2.1 p.2.2) ps = _
    rw [e, storedAllH_nodup ps (acc ++ [p]) (by rw [n]; exact h)]
    simp
section
variable {X : Cx}
theorem pairsT_of {pins : List (Addr × Obj)} {σ : L2.St} {H : Hp} {s : Shared} (I : Inv X pins σ H s) : ∀ {ps : List Addr} {kvs : List (List Key × V)}, PairsT X.K H ps kvs →
    ∃ prs : List (List Key × Addr × Value), KT H kvs prs ∧ prs.length = ps.length ∧ (∀ x ∈ prs, (tupleKind (mixKind X.prog X.w)).is s.heap x.1 x.2.1 ∧ H x.2.1 = some (.tup (x.1.map kV))) ∧ ∀ (j : Nat) (x : List Key × Addr × Value), prs[j]? = some x → ∃ b : Addr, ps[j]? = some b ∧ IsTup s.heap b #[.ref x.2.1, x.2.2]
  | _, _, .nil => ⟨[], .nil, rfl, fun x hx => (nomatch hx), fun j q e => by simp at e⟩
  | _, _, .cons (a := p) (b := kv) h t => by
    obtain ⟨prs, r, hl, hi, hp⟩ := pairsT_of I t
    obtain ⟨q, h1, h2⟩ := h
    obtain ⟨its, rv, ht, _⟩ := I.tuple h1
    obtain ⟨u, y, ei, ru, ry⟩ := vals2 rv
    subst ei
    cases ru
    refine ⟨(kv.1, q, y) :: prs, .cons ⟨rfl, h2, ry⟩ r, by rw [List.length_cons, List.length_cons, hl], fun x hx => ?_, fun j x e => ?_⟩
    · rcases List.mem_cons.mp hx with e | e
      · subst e; exact ⟨key_of I.hok h2, h2⟩
      · exact hi x e
    · cases j with
      | zero =>
        have e' : (kv.1, q, y) = x := Option.some.inj e
        subst e'
        exact ⟨p, rfl, ht⟩
      | succ j =>
        obtain ⟨b, e1, e2⟩ := hp j x (by simpa using e)
        exact ⟨b, by simpa using e1, e2⟩
def rDictT (K : PySem.W.Frag) : List V → Hp → VK → Prop := fun xs H Q => ∃ (a : Addr) (ps : List Addr) (kvs : List (List Key × V)), xs = [.ref a] ∧ SqL K H a (ps.map V.ref) ∧ PairsT K H ps kvs ∧ (kvs.map Prod.fst).Nodup ∧ ∀ p, H p = none → Q (.ref p) (upd H p (.dT kvs))
theorem KT.keysEq {H : Hp} : ∀ {kvs : List (List Key × V)} {xs : List (List Key × Addr × Value)}, KT H kvs xs → xs.map (·.1) = kvs.map Prod.fst
  | _, _, .nil => rfl
  | _, _, .cons h t => by
    rw [List.map_cons, List.map_cons, KT.keysEq t, ← h.1]
theorem call_dictT (hcalm : X.calm = true) (hu : X.A.units + 64 < cLine) : CallR X (.type "dict") (rDictT X.K) := by
  intro pins s σ H xs us Q I r q
  obtain ⟨a, ps, kvs, ex, hq, hp, hn, q⟩ := q
  subst ex
  obtain ⟨u, eu, rx⟩ := vals1 r
  subst eu
  cases rx
  obtain ⟨its, rv, pl, hz⟩ := I.list hq
  have ei := refs_at rv
  subst ei
  rw [List.length_map] at hz
  obtain ⟨prs, rel, hl, hk, hpr⟩ := pairsT_of I hp
  have nd : (prs.map (·.1)).Nodup := by rw [KT.keysEq rel]; exact hn
  obtain ⟨o, n, ho, hc, hd, hdat⟩ := pl
  have P := PySem.PairArg.list (prog := X.prog) (w := X.w) a (ps.map Value.ref).toArray (fun j => ps.getD j 0) (prs.map fun x => (Value.ref x.2.1, x.2.2))
  refine PySem.call_dict_pairsH (knd := tupleKind (mixKind X.prog X.w)) (ps := prs) P (I.ok.hd hcalm) ?_ ⟨⟨o, n, ho, hc, hd, hdat⟩, ?_, ?_⟩ ⟨?_, ?_⟩ ?_ ?_ fun h' tk hd' k => ?_
  · show X.A.units + 1 + 1 < cLine
    omega
  · simp [hl]
  · intro j k v e
    rw [List.getElem?_map] at e
    cases ex : prs[j]? with
    | none => rw [ex] at e; cases e
    | some x =>
      rw [ex] at e
      cases e
      obtain ⟨b, e1, e2⟩ := hpr j x ex
      have eb : ps.getD j 0 = b := by rw [List.getD_eq_getElem?_getD, e1]; rfl
      refine ⟨?_, .inl ?_⟩
      · show (List.map Value.ref ps).toArray[j]? = some (Value.ref (ps.getD j 0))
        rw [eb]
        simp [e1]
      · show s.heap.IsTuple (ps.getD j 0) _
        rw [eb]
        exact e2
  · rw [List.length_map]
  · intro j k v e
    have e : (prs.map fun x => (Value.ref x.2.1, x.2.2))[j]? = some (k, v) := e
    rw [List.getElem?_map] at e
    cases ex : prs[j]? with
    | none => rw [ex] at e; cases e
    | some x =>
      rw [ex] at e
      cases e
      exact ⟨x.1, x.2.1, rfl, rfl⟩
  · intro h' hk' x hx
    obtain ⟨o2, its2, n2, g1, g2, g3, g4⟩ := (hk x hx).1
    exact ⟨o2, its2, n2, hk' _ _ (Nat.ne_of_lt (Heap.lt_size g1)) (by simp) g1, g2, g3, g4⟩
  · rw [List.length_map, hl]; exact hz
  · rw [storedAllH_nodup prs [] (by simpa using nd), List.nil_append] at hd'
    obtain ⟨o2, es, ep, g1, g2, g3, g4, g5, g6⟩ := hd'
    have hm : (s.heap.objs.size == sysModules) = false := beq_eq_false_iff_ne.mpr (Nat.ne_of_gt I.big)
    have hlen : kvs.length ≤ sizeLine := by
      have := Paired.length rel
      omega
    refine ⟨.ref s.heap.objs.size, upd H s.heap.objs.size (.dT kvs), I.laid (t' := tk) (fun b o e => k b o (by simp) e) (Nat.le_refl _) (show ObjOk X.prog X.w _ _ _ (.dT kvs) from ⟨hlen, hm, prs, KT.keeps rel fun b ys hb => ?_, o2, es, ep, g1, g2, g3, g4, g6⟩), rfl, q _ (I.hok.fresh (Nat.le_refl _))⟩
    rw [upd_ne (ne_of_none hb (I.hok.fresh (Nat.le_refl _)))]
    exact hb
end
end Gk
namespace Gk
open PySem L2 PyProof.Rows
/-! sum, max, min, all of a tuple -/
theorem preSum_val : ∀ (ns : List Int) (n : Nat), n ≤ ns.length → preSum (fun i => ns.getD i 0) n = (ns.take n).sum
  | ns, 0, _ => rfl
  | ns, n + 1, h => by
    have ih := preSum_val ns n (by omega)
    have e : ns[n]? = some ns[n] := List.getElem?_eq_getElem (by omega)
    show preSum (fun i => ns.getD i 0) n + ns.getD n 0 = _
    rw [ih, List.take_add_one, e, List.sum_append, List.getD_eq_getElem?_getD, e]
    simp
def rSumT (K : PySem.W.Frag) : List V → Hp → VK → Prop := fun vs H Q => ∃ (a : Addr) (ns : List Int), vs = [V.ref a] ∧ SqT K H a (ns.map V.int) ∧ Q (.int ns.sum) H
theorem cr_sumT {X : Cx} (hc : X.calm = true) : CallR X (.builtin "sum") (rSumT X.K) := by
  intro pins s σ H vs us Q I r h
  obtain ⟨a, ns, rfl, hs, q⟩ := h
  obtain ⟨its, rv, p, hz⟩ := I.tuple hs
  rw [Vals.ref1 r]
  have hl : its.length = ns.length := by rw [← rv.length, List.length_map]
  have la : a < s.heap.objs.size := by obtain ⟨o, ho, _⟩ := id p; exact Heap.lt_size ho
  refine call_sum_walkG (wpAny_pyIter_tuple (show s.heap.IsTuple a its.toArray from p) ?_)
  refine ⟨s.heap.objs.size, _, _, _, _, _, fun i => ns.getD i 0, rfl, Walks.tuple (A := X.A.in1) (I.ok.hd hc) s.heap.objs.size a (Nat.ne_of_lt la) its.toArray, ⟨⟨_, Heap.get?_push_size _ rfl, rfl, rfl⟩, (show s.heap.IsTuple a its.toArray from p).push _⟩, fun b hb => ?_, fun i v hv => ?_, fun h' tk t' hk => ?_⟩
  · show b < (s.heap.push _).objs.size
    rw [Heap.size_push]
    have : b = s.heap.objs.size ∨ b = a := by simpa using hb
    rcases this with e | e
    · rw [e]; exact Nat.lt_succ_self _
    · rw [e]; exact Nat.lt_succ_of_lt la
  · have hv : its[i]? = some v := by simpa using hv
    have hi : i < ns.length := by have := (List.getElem?_eq_some_iff.mp hv).1; omega
    obtain ⟨u, hu, ru⟩ := rv.get (show (ns.map V.int)[i]? = some (V.int ns[i]) by rw [List.getElem?_map, List.getElem?_eq_getElem hi]; rfl)
    rw [hv] at hu
    cases hu
    obtain ⟨t, e⟩ := ru
    refine ⟨t, ?_⟩
    show v = Value.int (ns.getD i 0) t
    rw [e, List.getD_eq_getElem?_getD, List.getElem?_eq_getElem hi]
    rfl
  · have e : preSum (fun i => ns.getD i 0) its.toArray.size = ns.sum := by
      rw [List.size_toArray, hl, preSum_val ns _ (Nat.le_refl _), List.take_length]
    rw [e]
    refine ⟨.int ns.sum, H, I.kept (t' := tk) fun b o eo => hk b o (fun hm => ?_) (Heap.get?_push_of_some _ eo), ⟨t', rfl⟩, q⟩
    have : b = s.heap.objs.size := by simpa using hm
    exact absurd (this ▸ Heap.lt_size eo) (Nat.lt_irrefl _)
end Gk
namespace Gk
open PySem L2 PyProof.Rows
/-! the same rules, the written part said outright: for comprehensions within comprehensions -/
section
variable {X : Cx} {tg : Expr}
theorem pi_listK (K : PySem.W.Frag) (h : X.K = K) {l : Expr} {tl : TE} (hl : PE X l tl) : PI X tg l (iList K tl) := h ▸ pi_list hl
theorem pi_tupK (K : PySem.W.Frag) (h : X.K = K) {l : Expr} {tl : TE} (hl : PE X l tl) : PI X tg l (iTup K tl) := h ▸ pi_tup hl
theorem pa_starK (K : PySem.W.Frag) (h : X.K = K) {e : Expr} {te : TE} {es : List Expr} {t : TA} {p : Pos} (he : PE X e te) (hr : PA X es t) (hs : starEach (.Starred e p :: es) X.env = (true, eval e X.env) :: starEach es X.env := by rfl) : PA X (.Starred e p :: es) (StX.tStar K te t) := h ▸ StX.pa_star he hr hs
theorem cr_sumTK (K : PySem.W.Frag) (h : X.K = K) (hc : X.calm = true) : CallR X (.builtin "sum") (rSumT K) := h ▸ cr_sumT hc
theorem cr_sortedDK (K : PySem.W.Frag) (h : X.K = K) (hu : X.A.units + 64 < cLine) : CallR X (.builtin "sorted") (rSortD K) := h ▸ cr_sortedD hu
theorem cr_reprK (K : PySem.W.Frag) (h : X.K = K) (hg : X.A.guards = some []) (hu : X.A.units + 64 < cLine) : CallR X (.builtin "repr") (rRepr K) := h ▸ cr_repr hg hu
end
section
variable {X : Cx} {elts : List Expr} {kk : Nat} {tpos : Pos}
theorem pi_enumTK (K : PySem.W.Frag) (h : X.K = K) {e : Expr} {ta : TA} {p pos : Pos} (hg : Gl X "enumerate") (hm : X.mg "enumerate" = none) (ha : PA X [e] ta)
    (hs : starEach [e] X.env = [(false, eval e X.env)] := by rfl) : PI X (.Tuple elts kk tpos) (.Call (.Name "enumerate" p) [e] [] pos) (iEnumT K ta) := h ▸ pi_enumT hg hm ha hs
theorem pi_zipGK (K : PySem.W.Frag) (h : X.K = K) {e e2 : Expr} {ta : TA} {p pos : Pos} (hg : Gl X "zip") (hm : X.mg "zip" = none) (ha : PA X [e, e2] ta)
    (hs : starEach [e, e2] X.env = (false, eval e X.env) :: starEach [e2] X.env := by rfl) (hpl : (backTo pos (starEach [e2] X.env)).any (·.1) = false := by rfl) :
    PI X (.Tuple elts kk tpos) (.Call (.Name "zip" p) [e, e2] [] pos) (iZipG K ta) := h ▸ pi_zipG hg hm ha hs hpl
end
/-- the block of a comprehension within a comprehension of a def -/
theorem blk_in {N : List Str} {sc scope : Scope} {own : List (Str × Nat)} (h : blkC N sc scope own = true) : BlkOk N sc scope own := blkOk_by h
end Gk
namespace Gk
open PySem L2 PyProof.Rows
/-! what sorted gives, as data -/
theorem dpAll_pairs {K : PySem.W.Frag} {H : Hp} : ∀ {l : List (V × PyData)}, (∀ p ∈ l, Dp K H p.1 p.2) → DpAll K H (l.map Prod.fst) (l.map Prod.snd)
  | [], _ => .nil
  | p :: l, h => .cons (h p (by simp)) (dpAll_pairs fun q hq => h q (by simp [hq]))
theorem pairs_dpAll {K : PySem.W.Frag} {H : Hp} : ∀ {vs : List V} {ds : List PyData}, DpAll K H vs ds → ∃ l : List (V × PyData), l.map Prod.fst = vs ∧ l.map Prod.snd = ds ∧ ∀ p ∈ l, Dp K H p.1 p.2
  | _, _, .nil => ⟨[], rfl, rfl, fun p h => nomatch h⟩
  | _, _, .cons (v := v) (d := d) h1 h2 => by
    obtain ⟨l, e1, e2, q⟩ := pairs_dpAll h2
    refine ⟨(v, d) :: l, by rw [List.map_cons, e1], by rw [List.map_cons, e2], fun p hp => ?_⟩
    rcases List.mem_cons.mp hp with e | e
    · subst e; exact h1
    · exact q p e
/-- the data in order -/
def srt (ds : List PyData) : List PyData := ds.mergeSort (PySem.W.dataLe false id)
theorem srt_mem {ds : List PyData} {d : PyData} : d ∈ srt ds ↔ d ∈ ds := List.mem_mergeSort
theorem srt_len (ds : List PyData) : (srt ds).length = ds.length := List.length_mergeSort _
theorem srt_snd (l : List (V × PyData)) : (l.mergeSort (PySem.W.dataLe false Prod.snd)).map Prod.snd = srt (l.map Prod.snd) :=
  List.map_mergeSort fun a _ b _ => rfl
/-- sorted of a list that stands for data -/
theorem sort_ok {K : PySem.W.Frag} {H : Hp} {a : Addr} {vs : List V} {ds : List PyData} {Q : VK} (hs : SqL K H a vs) (hd : DpAll K H vs ds) (hal : PySem.W.AllAlike ds) (hk : PySem.W.Sortable ds) (hdep : ∀ d ∈ ds, d.depth ≤ 60)
    (q : ∀ l us, H l = none → us.length = vs.length → DpAll K H us (srt ds) → Q (.ref l) (upd H l (.lst us))) : rSortD K [.ref a] H Q := by
  obtain ⟨l, rfl, rfl, hp⟩ := pairs_dpAll hd
  refine ⟨a, l, rfl, hs, hp, hal, hk, fun p hp => hdep _ (List.mem_map.mpr ⟨p, hp, rfl⟩), fun p np => q p _ np (by rw [List.length_map, List.length_map, List.length_mergeSort]) ?_⟩
  rw [← srt_snd]
  exact dpAll_pairs fun p hp' => hp p (List.mem_mergeSort.mp hp')
theorem alike_tI (xs ys : List Int) : PySem.W.alike (tI xs) (tI ys) = true := by
  show PySem.W.alike (.tuple _) (.tuple _) = true
  rw [PySem.W.alike]
  exact PySem.W.alike_ints xs ys
theorem alikeAll_of : ∀ {xs ys : List PyData}, (∀ x ∈ xs, ∀ y ∈ ys, PySem.W.alike x y = true) → PySem.W.alikeAll xs ys = true
  | [], _, _ => by simp [PySem.W.alikeAll]
  | _ :: _, [], _ => by simp [PySem.W.alikeAll]
  | x :: xs, y :: ys, h => by
    rw [PySem.W.alikeAll, h x (by simp) y (by simp), alikeAll_of fun a ha b hb => h a (by simp [ha]) b (by simp [hb])]
    rfl
end Gk
/-! the data layer: values as data, the heap out of sight -/
namespace Dl
open PySem L2 Gk

/-- what a def's walk is measured by: the written part, the heap at its entry, what was data then, the source of draws -/
structure Anc where
  K : PySem.W.Frag
  H0 : Hp
  F0 : Addr → Prop
  S : Option (Addr × Addr)
def bad (S : Option (Addr × Addr)) (a : Addr) : Prop := ∃ p c, S = some (p, c) ∧ (a = p ∨ a = c)
/-- whose: made here and known to one name alone; there at the entry; there now -/
inductive Ow
  | mine | old | cur
  deriving DecidableEq
inductive DV
  | d (x : PyData)
  | l (w : Ow) (xs : List PyData)
  | dk (w : Ow) (kvs : List (Key × PyData))
  | dt (w : Ow) (kvs : List (List Key × PyData))
  | src
def DV.isMine : DV → Bool
  | .l .mine _ => true
  | .dk .mine _ => true
  | .dt .mine _ => true
  | _ => false
def DV.isCur : DV → Bool
  | .l .cur _ => true
  | .dk .cur _ => true
  | .dt .cur _ => true
  | _ => false
mutual
inductive Rp (F : Addr → Prop) (H : Hp) : V → PyData → Prop
  | non : Rp F H .non .none
  | bl (b : Bool) : Rp F H (.bl b) (.bool b)
  | int (i : Int) : Rp F H (.int i) (.int i)
  | str (x : Str) : Rp F H (.str x) (.str x)
  | lst {a : Addr} {xs : List V} {ds : List PyData} : F a → H a = some (.lst xs) → RpA F H xs ds → Rp F H (.ref a) (.list ds)
  | tup {a : Addr} {xs : List V} {ds : List PyData} : F a → H a = some (.tup xs) → RpA F H xs ds → Rp F H (.ref a) (.tuple ds)
inductive RpA (F : Addr → Prop) (H : Hp) : List V → List PyData → Prop
  | nil : RpA F H [] []
  | cons {v : V} {vs : List V} {d : PyData} {ds : List PyData} : Rp F H v d → RpA F H vs ds → RpA F H (v :: vs) (d :: ds)
end
def KRep {κ : Type} (F : Addr → Prop) (H : Hp) (ks : List (κ × V)) (kvs : List (κ × PyData)) : Prop := ks.map Prod.fst = kvs.map Prod.fst ∧ RpA F H (ks.map Prod.snd) (kvs.map Prod.snd)
def OwOk (H0 : Hp) (F : Addr → Prop) : Ow → Addr → Prop
  | .mine, a => ¬ F a
  | .old, a => ∃ o, H0 a = some o
  | .cur, _ => True
def Rep (H0 : Hp) (S : Option (Addr × Addr)) (F : Addr → Prop) (H : Hp) : DV → V → Prop
  | .d x, v => Rp F H v x
  | .l w ds, v => ∃ a vs, v = .ref a ∧ H a = some (.lst vs) ∧ ¬ bad S a ∧ RpA F H vs ds ∧ OwOk H0 F w a
  | .dk w kvs, v => ∃ a ks, v = .ref a ∧ H a = some (.dK ks) ∧ ¬ bad S a ∧ KRep F H ks kvs ∧ OwOk H0 F w a
  | .dt w kvs, v => ∃ a ks, v = .ref a ∧ H a = some (.dT ks) ∧ ¬ bad S a ∧ KRep F H ks kvs ∧ OwOk H0 F w a
  | .src, v => ∃ p c, v = .ref p ∧ S = some (p, c)
structure Ok (S : Option (Addr × Addr)) (F : Addr → Prop) (H : Hp) : Prop where
  f : ∀ a, F a → ∃ o, H a = some o
  b : ∀ a, F a → ¬ bad S a
  s : ∀ p c, S = some (p, c) → Src H p c
/-- what an expression does -/
structure Gr (S : Option (Addr × Addr)) (F : Addr → Prop) (H : Hp) (F' : Addr → Prop) (H' : Hp) : Prop where
  keep : ∀ a o, ¬ bad S a → H a = some o → H' a = some o
  sub : ∀ a, F a → F' a
  new : ∀ a, F' a → ¬ F a → H a = none ∨ ∃ xs, H a = some (.tup xs)
  ok : Ok S F' H'
/-- what a statement does -/
structure Stg (F : Addr → Prop) (H : Hp) (F' : Addr → Prop) (H' : Hp) : Prop where
  sub : ∀ a, F a → F' a
  keep : ∀ a o, F a → H a = some o → H' a = some o
theorem Stg.refl {F : Addr → Prop} {H : Hp} : Stg F H F H := ⟨fun _ h => h, fun _ _ _ h => h⟩
theorem Stg.trans {F F' F'' : Addr → Prop} {H H' H'' : Hp} (a : Stg F H F' H') (b : Stg F' H' F'' H'') : Stg F H F'' H'' := ⟨fun x h => b.sub x (a.sub x h), fun x o f h => b.keep x o (a.sub x f) (a.keep x o f h)⟩
section
variable {S : Option (Addr × Addr)} {F F' F'' : Addr → Prop} {H H' H'' H0 : Hp} {p : Addr}
theorem Gr.refl (ok : Ok S F H) : Gr S F H F H := ⟨fun _ _ _ h => h, fun _ h => h, fun _ h n => absurd h n, ok⟩
theorem Gr.trans (a : Gr S F H F' H') (b : Gr S F' H' F'' H'') : Gr S F H F'' H'' := by
  refine ⟨fun x o n h => b.keep x o n (a.keep x o n h), fun x h => b.sub x (a.sub x h), fun x h n => ?_, b.ok⟩
  by_cases q : F' x
  · exact a.new x q n
  · have e := b.new x h q
    cases z : H x with
    | none => exact .inl rfl
    | some o =>
      rcases e with e | ⟨xs, e⟩
      · rw [a.keep x o (b.ok.b x h) z] at e; cases e
      · rw [a.keep x o (b.ok.b x h) z] at e; cases e; exact .inr ⟨xs, rfl⟩
theorem Gr.stg (ok : Ok S F H) (g : Gr S F H F' H') : Stg F H F' H' := ⟨g.sub, fun a o f h => g.keep a o (ok.b a f) h⟩
theorem bad_none {S : Option (Addr × Addr)} {F : Addr → Prop} {H : Hp} (ok : Ok S F H) (h : H p = none) : ¬ bad S p := by
  rintro ⟨q, c, e, z⟩
  obtain ⟨ns, l, m, t, h1, h2⟩ := ok.s q c e
  rcases z with z | z
  · rw [z, h1] at h; cases h
  · rw [z, h2] at h; cases h
/-- a new object -/
theorem Gr.newO (ok : Ok S F H) {o : HO} (h : H p = none) : Gr S F H F (upd H p o) := by
  have nf : ∀ a, F a → a ≠ p := fun a f e => by obtain ⟨o, q⟩ := ok.f a f; rw [e, h] at q; cases q
  refine ⟨fun a o _ e => ?_, fun _ h => h, fun _ h n => absurd h n, fun a f => ?_, ok.b, fun q c e => (ok.s q c e).same (same_new h)⟩
  · rw [upd_ne (ne_of_none e h)]; exact e
  · obtain ⟨o, q⟩ := ok.f a f
    exact ⟨o, by rw [upd_ne (nf a f)]; exact q⟩
/-- a new object that is data from now on -/
theorem Gr.newF (ok : Ok S F H) {o : HO} (h : H p = none) : Gr S F H (fun a => F a ∨ a = p) (upd H p o) := by
  have g := Gr.newO ok (o := o) h
  refine ⟨g.keep, fun _ h => .inl h, fun a f n => ?_, fun a f => ?_, fun a f => ?_, g.ok.s⟩
  · rcases f with f | f
    · exact absurd f n
    · rw [f]; exact .inl h
  · rcases f with f | f
    · exact g.ok.f a f
    · exact ⟨o, by rw [f]; exact upd_same⟩
  · rcases f with f | f
    · exact ok.b a f
    · rw [f]; exact bad_none ok h
/-- tuples that stand are data from now on -/
theorem Gr.tups (g : Gr S F H F' H') (T : Addr → Prop) (hT : ∀ a, T a → ∃ xs, H' a = some (.tup xs)) : Gr S F H (fun a => F' a ∨ T a) H' := by
  have nb : ∀ a, T a → ¬ bad S a := fun a t => by
    obtain ⟨xs, e⟩ := hT a t
    rintro ⟨q, c, eq, z⟩
    obtain ⟨ns, l, m, t, h1, h2⟩ := g.ok.s q c eq
    rcases z with z | z
    · rw [z, h1] at e; cases e
    · rw [z, h2] at e; cases e
  refine ⟨g.keep, fun a h => .inl (g.sub a h), fun a f n => ?_, fun a f => ?_, fun a f => ?_, g.ok.s⟩
  · rcases f with f | f
    · exact g.new a f n
    · obtain ⟨xs, e⟩ := hT a f
      cases q : H a with
      | none => exact .inl rfl
      | some o =>
        have := g.keep a o (nb a f) q
        rw [e] at this
        cases this
        exact .inr ⟨xs, rfl⟩
  · rcases f with f | f
    · exact g.ok.f a f
    · obtain ⟨xs, e⟩ := hT a f
      exact ⟨_, e⟩
  · rcases f with f | f
    · exact g.ok.b a f
    · exact nb a f
/-- what was made on the way is data from now on -/
def frzF (S : Option (Addr × Addr)) (F : Addr → Prop) (H H' : Hp) (vs : List V) : Addr → Prop := fun a => F a ∨ (V.ref a ∈ vs ∧ H a = none ∧ (∃ o, H' a = some o) ∧ ¬ bad S a)
theorem Gr.frz (g : Gr S F H F' H') (vs : List V) : Gr S F H (frzF S F' H H' vs) H' := by
  refine ⟨g.keep, fun a h => .inl (g.sub a h), fun a f n => ?_, fun a f => ?_, fun a f => ?_, g.ok.s⟩
  · rcases f with f | f
    · exact g.new a f n
    · exact .inl f.2.1
  · rcases f with f | f
    · exact g.ok.f a f
    · exact f.2.2.1
  · rcases f with f | f
    · exact g.ok.b a f
    · exact f.2.2.2
mutual
theorem Rp.mono (hs : ∀ a, F a → F' a) (hk : ∀ a o, F a → H a = some o → H' a = some o) : ∀ {v : V} {d : PyData}, Rp F H v d → Rp F' H' v d
  | _, _, .non => .non
  | _, _, .bl b => .bl b
  | _, _, .int i => .int i
  | _, _, .str x => .str x
  | _, _, .lst f e r => .lst (hs _ f) (hk _ _ f e) (RpA.mono hs hk r)
  | _, _, .tup f e r => .tup (hs _ f) (hk _ _ f e) (RpA.mono hs hk r)
theorem RpA.mono (hs : ∀ a, F a → F' a) (hk : ∀ a o, F a → H a = some o → H' a = some o) : ∀ {v : List V} {d : List PyData}, RpA F H v d → RpA F' H' v d
  | _, _, .nil => .nil
  | _, _, .cons a b => .cons (Rp.mono hs hk a) (RpA.mono hs hk b)
end
theorem Rp.stg (g : Stg F H F' H') {v : V} {d : PyData} (h : Rp F H v d) : Rp F' H' v d := h.mono g.sub g.keep
theorem RpA.stg (g : Stg F H F' H') {v : List V} {d : List PyData} (h : RpA F H v d) : RpA F' H' v d := h.mono g.sub g.keep
theorem KRep.stg {κ : Type} (g : Stg F H F' H') {ks : List (κ × V)} {kvs : List (κ × PyData)} (h : KRep F H ks kvs) : KRep F' H' ks kvs := ⟨h.1, h.2.stg g⟩
theorem Gr.not {a : Addr} {o : HO} (g : Gr S F H F' H') (h : H a = some o) (ho : ∀ xs, o ≠ .tup xs) (k : ¬ F a) : ¬ F' a := fun f => by
  rcases g.new a f k with e | ⟨xs, e⟩
  · rw [e] at h; cases h
  · rw [e] at h; cases h; exact ho xs rfl
theorem OwOk.grow {w : Ow} {a : Addr} {o : HO} (g : Gr S F H F' H') (h : H a = some o) (ho : ∀ xs, o ≠ .tup xs) (k : OwOk H0 F w a) : OwOk H0 F' w a := by
  cases w with
  | mine => exact g.not h ho k
  | old => exact k
  | cur => exact trivial
theorem Rep.grow {dv : DV} {v : V} (ok : Ok S F H) (g : Gr S F H F' H') (h : Rep H0 S F H dv v) : Rep H0 S F' H' dv v := by
  have st := g.stg ok
  cases dv with
  | d x => exact Rp.stg st h
  | l w ds =>
    obtain ⟨a, vs, e, h1, h2, h3, h4⟩ := h
    exact ⟨a, vs, e, g.keep a _ h2 h1, h2, h3.stg st, h4.grow g h1 (fun xs e => nomatch e)⟩
  | dk w ds =>
    obtain ⟨a, vs, e, h1, h2, h3, h4⟩ := h
    exact ⟨a, vs, e, g.keep a _ h2 h1, h2, h3.stg st, h4.grow g h1 (fun xs e => nomatch e)⟩
  | dt w ds =>
    obtain ⟨a, vs, e, h1, h2, h3, h4⟩ := h
    exact ⟨a, vs, e, g.keep a _ h2 h1, h2, h3.stg st, h4.grow g h1 (fun xs e => nomatch e)⟩
  | src => exact h
mutual
theorem Rp.dp {K : PySem.W.Frag} : ∀ {v : V} {d : PyData}, Rp F H v d → Dp K H v d
  | _, _, .non => .non
  | _, _, .bl b => .bl b
  | _, _, .int i => .int i
  | _, _, .str x => .str x
  | _, _, .lst _ e r => .lst (SqL.of e) (RpA.dp r)
  | _, _, .tup _ e r => .tup (SqT.of e) (RpA.dp r)
theorem RpA.dp {K : PySem.W.Frag} : ∀ {v : List V} {d : List PyData}, RpA F H v d → DpAll K H v d
  | _, _, .nil => .nil
  | _, _, .cons a b => .cons (Rp.dp a) (RpA.dp b)
end
theorem RpA.len : ∀ {v : List V} {d : List PyData}, RpA F H v d → v.length = d.length
  | _, _, .nil => rfl
  | _, _, .cons _ b => by rw [List.length_cons, List.length_cons, RpA.len b]
theorem RpA.app : ∀ {v w : List V} {d e : List PyData}, RpA F H v d → RpA F H w e → RpA F H (v ++ w) (d ++ e)
  | _, _, _, _, .nil, h => h
  | _, _, _, _, .cons a b, h => .cons a (RpA.app b h)
theorem RpA.one {v : V} {d : PyData} (h : Rp F H v d) : RpA F H [v] [d] := .cons h .nil
theorem RpA.get : ∀ {v : List V} {d : List PyData} {i : Nat} {x : V}, RpA F H v d → v[i]? = some x → ∃ z, d[i]? = some z ∧ Rp F H x z
  | _, _, _, _, .nil, h => by simp at h
  | _, _, 0, x, .cons (v := v) (d := d) a _, h => by
    have h : v = x := by simpa using h
    subst h
    exact ⟨d, by simp, a⟩
  | _, _, i + 1, _, .cons _ b, h => by
    obtain ⟨z, h1, h2⟩ := RpA.get (i := i) b (by simpa using h)
    exact ⟨z, by simpa using h1, h2⟩
theorem RpA.get2 : ∀ {v : List V} {d : List PyData} {i : Nat} {z : PyData}, RpA F H v d → d[i]? = some z → ∃ x, v[i]? = some x ∧ Rp F H x z
  | _, _, _, _, .nil, h => by simp at h
  | _, _, 0, z, .cons (v := v) (d := d) a _, h => by
    have h : d = z := by simpa using h
    subst h
    exact ⟨v, by simp, a⟩
  | _, _, i + 1, _, .cons _ b, h => by
    obtain ⟨z, h1, h2⟩ := RpA.get2 (i := i) b (by simpa using h)
    exact ⟨z, by simpa using h1, h2⟩
theorem RpA.take : ∀ {v : List V} {d : List PyData} (n : Nat), RpA F H v d → RpA F H (v.take n) (d.take n)
  | _, _, 0, _ => .nil
  | _, _, _ + 1, .nil => .nil
  | _, _, n + 1, .cons a b => .cons a (RpA.take n b)
theorem RpA.drop : ∀ {v : List V} {d : List PyData} (n : Nat), RpA F H v d → RpA F H (v.drop n) (d.drop n)
  | _, _, 0, h => h
  | _, _, _ + 1, .nil => .nil
  | _, _, n + 1, .cons _ b => RpA.drop n b
theorem RpA.set : ∀ {v : List V} {d : List PyData} {x : V} {z : PyData} (n : Nat), Rp F H x z → RpA F H v d → RpA F H (v.set n x) (d.set n z)
  | _, _, _, _, _, _, .nil => .nil
  | _, _, _, _, 0, h, .cons _ b => .cons h b
  | _, _, _, _, n + 1, h, .cons a b => .cons a (RpA.set n h b)
theorem RpA.rev : ∀ {v : List V} {d : List PyData}, RpA F H v d → RpA F H v.reverse d.reverse
  | _, _, .nil => .nil
  | _, _, .cons a b => by rw [List.reverse_cons, List.reverse_cons]; exact RpA.app (RpA.rev b) (.one a)
theorem RpA.ints : ∀ {v : List V} {ns : List Int}, RpA F H v (ns.map PyData.int) → v = ns.map V.int
  | _, [], h => by cases h; rfl
  | _, n :: ns, h => by
    cases h with
    | cons a b => cases a; rw [RpA.ints b]; rfl
theorem RpA.of_ints : ∀ (ns : List Int), RpA F H (ns.map V.int) (ns.map PyData.int)
  | [] => .nil
  | n :: ns => .cons (.int n) (RpA.of_ints ns)
theorem RpA.bools : ∀ {v : List V} {ns : List Bool}, RpA F H v (ns.map PyData.bool) → v = ns.map V.bl
  | _, [], h => by cases h; rfl
  | _, n :: ns, h => by
    cases h with
    | cons a b => cases a; rw [RpA.bools b]; rfl
end

/-! slots -/
abbrev Ds := List (Option DV)
def gs : Ds → Nat → Option DV
  | [], _ => none
  | x :: _, 0 => x
  | _ :: r, n + 1 => gs r n
def st : Ds → Nat → Option DV → Ds
  | [], _, _ => []
  | _ :: r, 0, x => x :: r
  | y :: r, n + 1, x => y :: st r n x
theorem gs_eq : ∀ (ρ : Ds) (i : Nat), gs ρ i = (ρ[i]?).join
  | [], _ => by simp [gs]
  | x :: _, 0 => by simp [gs]
  | _ :: r, n + 1 => by simp [gs, gs_eq r n]
theorem gs_some {ρ : Ds} {i : Nat} {x : DV} (h : gs ρ i = some x) : ρ[i]? = some (some x) := by
  rw [gs_eq] at h
  cases e : ρ[i]? with
  | none => rw [e] at h; cases h
  | some y => rw [e] at h; rw [show y = some x from h]
theorem st_eq : ∀ (ρ : Ds) (i : Nat) (x : Option DV), st ρ i x = ρ.set i x
  | [], _, _ => rfl
  | _ :: _, 0, _ => rfl
  | y :: r, n + 1, x => by show y :: st r n x = y :: r.set n x; rw [st_eq]
/-- the slots' values are the data's -/
structure Rel (A : Anc) (ρ : Ds) (F : Addr → Prop) (σ : L2.St) (H : Hp) : Prop where
  len : ρ.length = σ.length
  sl : ∀ (i : Nat) (dv : DV), ρ[i]? = some (some dv) → ∃ v, σ[i]? = some (some v) ∧ Rep A.H0 A.S F H dv v ∧ dv.isCur = false ∧ (dv.isMine = true → ∀ a, v = .ref a → A.H0 a = none)
  un : ∀ (i j : Nat) (x y : DV) (a : Addr), ρ[i]? = some (some x) → ρ[j]? = some (some y) → x.isMine = true → y.isMine = true → σ[i]? = some (some (.ref a)) → σ[j]? = some (some (.ref a)) → i = j
  gr : Gr A.S A.F0 A.H0 F H
section
variable {A : Anc} {ρ : Ds} {F F' : Addr → Prop} {σ : L2.St} {H H' : Hp}
theorem Rel.ok (r : Rel A ρ F σ H) : Ok A.S F H := r.gr.ok
theorem Rel.grow (r : Rel A ρ F σ H) (g : Gr A.S F H F' H') : Rel A ρ F' σ H' :=
  ⟨r.len, fun i dv e => by obtain ⟨v, h1, h2, h3, h4⟩ := r.sl i dv e; exact ⟨v, h1, h2.grow r.ok g, h3, h4⟩, r.un, r.gr.trans g⟩
end
end Dl
namespace Dl
open PySem L2 Gk
/-! what an expression, a test, an argument list says of data -/
abbrev Dte := Ds → (DV → Prop) → Prop
abbrev Dtt := Ds → (Bool → Prop) → Prop
abbrev Dta := Ds → (List DV → Prop) → Prop
def Fresh (H : Hp) (dv : DV) (v : V) : Prop := dv.isMine = true → ∀ a, v = .ref a → H a = none
inductive Reps (H0 : Hp) (S : Option (Addr × Addr)) (F : Addr → Prop) (H Hs : Hp) : List DV → List V → Prop
  | nil : Reps H0 S F H Hs [] []
  | cons {dv : DV} {v : V} {ds : List DV} {vs : List V} : Rep H0 S F H dv v → Fresh Hs dv v → Reps H0 S F H Hs ds vs → Reps H0 S F H Hs (dv :: ds) (v :: vs)
def lift (A : Anc) (d : Dte) : TE := fun σ H R => ∃ ρ F Q, Rel A ρ F σ H ∧ d ρ Q ∧ ∀ dv v F' H', Q dv → Gr A.S F H F' H' → Rep A.H0 A.S F' H' dv v → Fresh H dv v → R v H'
def liftT (A : Anc) (d : Dtt) : TT := fun σ H R => ∃ ρ F Q, Rel A ρ F σ H ∧ d ρ Q ∧ ∀ b F' H', Q b → Gr A.S F H F' H' → R b H'
def liftA (A : Anc) (d : Dta) : TA := fun σ H R => ∃ ρ F Q, Rel A ρ F σ H ∧ d ρ Q ∧ ∀ dvs vs F' H', Q dvs → Gr A.S F H F' H' → Reps A.H0 A.S F' H' H dvs vs → R vs H'
structure DE (A : Anc) (X : Cx) (e : Expr) (d : Dte) : Prop where
  pe : PE X e (lift A d)
structure DT (A : Anc) (X : Cx) (e : Expr) (d : Dtt) : Prop where
  pt : PT X e (liftT A d)
structure DW (A : Anc) (X : Cx) (e : Expr) (d : Dtt) : Prop where
  pw : PW X e (liftT A d)
structure DA (A : Anc) (X : Cx) (es : List Expr) (d : Dta) : Prop where
  pa : PA X es (liftA A d)
theorem peImp {X : Cx} {e : Expr} {t t' : TE} (h : PE X e t) (w : ∀ σ H Q, t' σ H Q → t σ H Q) : PE X e t' := ⟨fun pins s σ H Q I q => h.run pins s σ H Q I (w σ H Q q)⟩
theorem ptImp {X : Cx} {e : Expr} {t t' : TT} (h : PT X e t) (w : ∀ σ H Q, t' σ H Q → t σ H Q) : PT X e t' := ⟨fun pins s σ H Q I q => h.run pins s σ H Q I (w σ H Q q)⟩
theorem pwImp {X : Cx} {e : Expr} {t t' : TT} (h : PW X e t) (w : ∀ σ H Q, t' σ H Q → t σ H Q) : PW X e t' := ⟨fun wh pins s σ H Q I q => h.run wh pins s σ H Q I (w σ H Q q)⟩
theorem paImp {X : Cx} {e : List Expr} {t t' : TA} (h : PA X e t) (w : ∀ σ H Q, t' σ H Q → t σ H Q) : PA X e t' := ⟨fun po pins s σ H Q I q => h.run po pins s σ H Q I (w σ H Q q)⟩
theorem psImp {X : Cx} {e : Stmt} {t t' : TS} (h : PS X e t) (w : ∀ D σ H, t' D σ H → t D σ H) : PS X e t' := ⟨fun pins s σ H D I q => h.run pins s σ H D I (w D σ H q)⟩
theorem pssImp {X : Cx} {e : List Stmt} {t t' : TS} (h : PSs X e t) (w : ∀ D σ H, t' D σ H → t D σ H) : PSs X e t' := ⟨fun pins s σ H D I q => h.run pins s σ H D I (w D σ H q)⟩
theorem Fresh.back {S : Option (Addr × Addr)} {F F' F2 : Addr → Prop} {H H' H0 H2 : Hp} {dv : DV} {v : V} (g : Gr S F H F' H') (r : Rep H0 S F2 H2 dv v) (f : Fresh H' dv v) : Fresh H dv v := fun m a e => by
  have h := f m a e
  have nb : ¬ bad S a := by
    cases dv with
    | l w ds => obtain ⟨b, vs, e1, _, nb, _⟩ := r; rw [e] at e1; cases e1; exact nb
    | dk w ds => obtain ⟨b, vs, e1, _, nb, _⟩ := r; rw [e] at e1; cases e1; exact nb
    | dt w ds => obtain ⟨b, vs, e1, _, nb, _⟩ := r; rw [e] at e1; cases e1; exact nb
    | d x => cases m
    | src => cases m
  cases q : H a with
  | none => rfl
  | some o => rw [g.keep a o nb q] at h; cases h
theorem Reps.grow {H0 : Hp} {S : Option (Addr × Addr)} {F F' : Addr → Prop} {H H' Hs : Hp} (ok : Ok S F H) (g : Gr S F H F' H') : ∀ {ds : List DV} {vs : List V}, Reps H0 S F H Hs ds vs → Reps H0 S F' H' Hs ds vs
  | _, _, .nil => .nil
  | _, _, .cons a b c => .cons (a.grow ok g) b (c.grow ok g)

/-! names, constants -/
def DV.use : DV → DV
  | .l .mine x => .l .cur x
  | .dk .mine x => .dk .cur x
  | .dt .mine x => .dt .cur x
  | x => x
theorem use_rep {H0 : Hp} {S : Option (Addr × Addr)} {F : Addr → Prop} {H : Hp} {dv : DV} {v : V} (h : Rep H0 S F H dv v) : Rep H0 S F H dv.use v := by
  cases dv with
  | d x => exact h
  | src => exact h
  | l w x =>
    obtain ⟨a, vs, e, h1, h2, h3, h4⟩ := h
    cases w with
    | mine => exact ⟨a, vs, e, h1, h2, h3, trivial⟩
    | old => exact ⟨a, vs, e, h1, h2, h3, h4⟩
    | cur => exact ⟨a, vs, e, h1, h2, h3, h4⟩
  | dk w x =>
    obtain ⟨a, vs, e, h1, h2, h3, h4⟩ := h
    cases w with
    | mine => exact ⟨a, vs, e, h1, h2, h3, trivial⟩
    | old => exact ⟨a, vs, e, h1, h2, h3, h4⟩
    | cur => exact ⟨a, vs, e, h1, h2, h3, h4⟩
  | dt w x =>
    obtain ⟨a, vs, e, h1, h2, h3, h4⟩ := h
    cases w with
    | mine => exact ⟨a, vs, e, h1, h2, h3, trivial⟩
    | old => exact ⟨a, vs, e, h1, h2, h3, h4⟩
    | cur => exact ⟨a, vs, e, h1, h2, h3, h4⟩
theorem use_mine (dv : DV) : dv.use.isMine = false := by
  cases dv with
  | l w x => cases w <;> rfl
  | dk w x => cases w <;> rfl
  | dt w x => cases w <;> rfl
  | d x => rfl
  | src => rfl
theorem fresh_no {H : Hp} {dv : DV} {v : V} (h : dv.isMine = false) : Fresh H dv v := fun m => by rw [h] at m; cases m
def dVar (i : Nat) : Dte := fun ρ Q => match gs ρ i with
  | some x => Q x.use
  | none => False
def dC (x : PyData) : Dte := fun _ Q => Q (.d x)
section
variable {A : Anc} {X : Cx} {e a b c : Expr} {pos : Pos} {da db dc : Dte} {j : Option Str}
theorem de_v {i : Nat} (h : PE X e (tVar i)) : DE A X e (dVar i) := ⟨peImp h fun σ H R ⟨ρ, F, Q, r, h, k⟩ => by
  unfold dVar at h
  cases q : gs ρ i with
  | none => rw [q] at h; exact h.elim
  | some x =>
    rw [q] at h
    obtain ⟨v, h1, h2, h3, h4⟩ := r.sl i x (gs_some q)
    exact ⟨v, h1, k _ v F H h (Gr.refl r.ok) (use_rep h2) (fresh_no (use_mine x))⟩⟩
theorem lift_c {A : Anc} {x : PyData} {v : V} (hv : ∀ F H, Rp F H v x) : ∀ σ H Q, lift A (dC x) σ H Q → tC v σ H Q := fun σ H R ⟨ρ, F, Q, r, h, k⟩ => k _ v F H h (Gr.refl r.ok) (hv F H) (fresh_no rfl)
theorem de_int {i : Int} {j} : DE A X (.Constant (.int i) j pos) (dC (.int i)) := ⟨peImp pe_int (lift_c fun _ _ => .int i)⟩
theorem de_bl {i : Bool} {j} : DE A X (.Constant (.bool i) j pos) (dC (.bool i)) := ⟨peImp pe_bl (lift_c fun _ _ => .bl i)⟩
theorem de_non {j} : DE A X (.Constant .none j pos) (dC .none) := ⟨peImp pe_non (lift_c fun _ _ => .non)⟩
theorem de_str {x : Str} {j} : DE A X (.Constant (.str x) j pos) (dC (.str x)) := ⟨peImp pe_str (lift_c fun _ _ => .str x)⟩

/-! operators -/
abbrev D2 := DV → DV → (DV → Prop) → Prop
abbrev D1 := DV → (DV → Prop) → Prop
def dOp (f : D2) (da db : Dte) : Dte := fun ρ Q => da ρ fun x => db ρ fun y => f x y Q
def dUn (f : D1) (da : Dte) : Dte := fun ρ Q => da ρ fun x => f x Q
structure OpL (A : Anc) (r : R2) (f : D2) : Prop where
  run : ∀ F H x y v w Q R, Gr A.S A.F0 A.H0 F H → Rep A.H0 A.S F H x v → Rep A.H0 A.S F H y w → f x y Q → (∀ dv u F' H', Q dv → Gr A.S F H F' H' → Rep A.H0 A.S F' H' dv u → Fresh H dv u → R u H') → r v w H R
theorem lift_op {r : R2} {f : D2} (o : OpL A r f) (σ : L2.St) (H : Hp) (R : VK) (h : lift A (dOp f da db) σ H R) : tOp r (lift A da) (lift A db) σ H R := by
  obtain ⟨ρ, F, Q, rel, h, k⟩ := h
  refine ⟨ρ, F, _, rel, h, fun x v F1 H1 h1 g1 r1 f1 => ?_⟩
  refine ⟨ρ, F1, _, rel.grow g1, h1, fun y w F2 H2 h2 g2 r2 f2 => ?_⟩
  refine o.run F2 H2 x y v w Q R ((rel.grow g1).grow g2).gr (r1.grow g1.ok g2) r2 h2 fun dv u F' H' q g rr ff => ?_
  exact k dv u F' H' q ((g1.trans g2).trans g) rr (ff.back (g1.trans g2) rr)
theorem de_op {op : Operator} {r : R2} {f : D2} (ho : OpR X (binaryOp op) r) (o : OpL A r f) (ha : DE A X a da) (hb : DE A X b db) : DE A X (.BinOp a op b pos) (dOp f da db) :=
  ⟨peImp (pe_op ho ha.pe hb.pe) fun σ H R h => lift_op o σ H R h⟩
theorem de_cmp {op : CmpOp} {r : R2} {f : D2} (ho : OpR X (compareOp op) r) (o : OpL A r f) (ha : DE A X a da) (hb : DE A X b db) (hm : behindInMarks op b = false := by first | exact nomark _ | rfl) : DE A X (.Compare a [op] [b] pos) (dOp f da db) :=
  ⟨peImp (pe_cmpR ho ha.pe hb.pe hm) fun σ H R h => lift_op o σ H R h⟩
/-- a value that is True or False, as a test -/
def asB : DV → (Bool → Prop) → Prop
  | .d (.bool b), Q => Q b
  | _, _ => False
def dTest (d : Dte) : Dtt := fun ρ Q => d ρ fun x => asB x Q
theorem asB_rep {H0 : Hp} {S : Option (Addr × Addr)} {F : Addr → Prop} {H : Hp} {x : DV} {v : V} {Q : Bool → Prop} (h : asB x Q) (r : Rep H0 S F H x v) : ∃ c, v = .bl c ∧ Q c := by
  cases x with
  | d y =>
    cases y with
    | bool c => have r : Rp F H v (.bool c) := r; cases r; exact ⟨c, rfl, h⟩
    | _ => exact h.elim
  | _ => exact h.elim
theorem lift_test (d : Dte) (σ : L2.St) (H : Hp) (R : Bool → Hp → Prop) (h : liftT A (dTest d) σ H R) : tB (lift A d) σ H R := by
  obtain ⟨ρ, F, Q, rel, h, k⟩ := h
  refine ⟨ρ, F, _, rel, h, fun x v F1 H1 h1 g1 r1 f1 => ?_⟩
  obtain ⟨c, e, q⟩ := asB_rep h1 r1
  exact ⟨c, e, k c F1 H1 q g1⟩
theorem dt_cmp {op : CmpOp} {r : R2} {f : D2} (ho : OpR X (compareOp op) r) (o : OpL A r f) (ha : DE A X a da) (hb : DE A X b db) (hm : behindInMarks op b = false := by first | exact nomark _ | rfl) : DT A X (.Compare a [op] [b] pos) (dTest (dOp f da db)) :=
  ⟨ptImp (pt_cmpR ho ha.pe hb.pe hm) fun σ H R h => by
    have h := lift_test _ σ H R h
    obtain ⟨ρ, F, Q, rel, h, k⟩ := h
    exact lift_op o σ H _ ⟨ρ, F, Q, rel, h, k⟩⟩
theorem dt_val (ha : DE A X a da) (he : ∀ whole, isTrue a X.env whole = (do let v ← whole; standAt a.pos; holding [v] (truthy v)) := by intro _; rfl) : DT A X a (dTest da) :=
  ⟨ptImp (pt_val ha.pe he) fun σ H R h => lift_test _ σ H R h⟩
/-- truth of a value -/
def truD : DV → (Bool → Prop) → Prop
  | .d .none, Q => Q false
  | .d (.bool b), Q => Q b
  | .d (.int i), Q => Q (i != 0)
  | .d (.str s), Q => s.length ≤ sizeLine ∧ Q ((s.length : Int) != 0)
  | .d (.list xs), Q => Q (!xs.isEmpty)
  | .d (.tuple xs), Q => Q (!xs.isEmpty)
  | .l _ xs, Q => Q (!xs.isEmpty)
  | .dk _ kvs, Q => Q (!kvs.isEmpty)
  | _, _ => False
theorem RpA.emp {F : Addr → Prop} {H : Hp} {vs : List V} {ds : List PyData} (h : RpA F H vs ds) : vs.isEmpty = ds.isEmpty := by cases h <;> rfl
theorem truD_rep {K : PySem.W.Frag} {H0 : Hp} {S : Option (Addr × Addr)} {F : Addr → Prop} {H : Hp} {x : DV} {v : V} {Q : Bool → Prop} (h : truD x Q) (r : Rep H0 S F H x v) : ∃ k, TruV K v H k ∧ Q k := by
  cases x with
  | d y =>
    have r : Rp F H v y := r
    cases r with
    | non => exact ⟨_, rfl, h⟩
    | bl b => exact ⟨_, rfl, h⟩
    | int i => exact ⟨_, rfl, h⟩
    | str s => exact ⟨_, ⟨h.1, rfl⟩, h.2⟩
    | lst f e r2 => exact ⟨_, .inl ⟨_, SqL.of e, rfl⟩, by rw [r2.emp]; exact h⟩
    | tup f e r2 => exact ⟨_, .inr (.inl ⟨_, SqT.of e, rfl⟩), by rw [r2.emp]; exact h⟩
  | l w ds =>
    obtain ⟨a, vs, e, h1, h2, h3, h4⟩ := r
    subst e
    exact ⟨_, .inl ⟨_, SqL.of h1, rfl⟩, by rw [h3.emp]; exact h⟩
  | dk w ds =>
    obtain ⟨a, ks, e, h1, h2, h3, h4⟩ := r
    subst e
    refine ⟨_, .inr (.inr ⟨_, h1, rfl⟩), ?_⟩
    have e : ks.isEmpty = ds.isEmpty := by
      have := h3.2.len
      rw [List.length_map, List.length_map] at this
      cases ks <;> cases ds <;> simp_all
    rw [e]; exact h
  | dt w ds => exact h.elim
  | src => exact h.elim
def dTru (d : Dte) : Dtt := fun ρ Q => d ρ fun x => truD x Q
theorem dt_tru (ha : DE A X a da) (he : ∀ whole, isTrue a X.env whole = (do let v ← whole; standAt a.pos; holding [v] (truthy v)) := by intro _; rfl) : DT A X a (dTru da) :=
  ⟨ptImp (pt_truth ha.pe he) fun σ H R h => by
    obtain ⟨ρ, F, Q, rel, h, k⟩ := h
    refine ⟨ρ, F, _, rel, h, fun x v F1 H1 h1 g1 r1 f1 => ?_⟩
    obtain ⟨c, e, q⟩ := truD_rep (K := X.K) h1 r1
    exact ⟨c, e, k c F1 H1 q g1⟩⟩
/-! and, or, not -/
variable {ta tb : Dtt} {rest : List Expr}
def dAnd (t u : Dtt) : Dtt := fun ρ Q => t ρ fun c => (c = true → u ρ Q) ∧ (c = false → Q false)
def dOr (t u : Dtt) : Dtt := fun ρ Q => t ρ fun c => (c = true → Q true) ∧ (c = false → u ρ Q)
def dNot (t : Dtt) : Dtt := fun ρ Q => t ρ fun c => Q (!c)
theorem dw_and1 (ha : DT A X a ta) : DW A X (.BoolOp .And [a] pos) ta := ⟨pw_and1 ha.pt⟩
theorem dw_or1 (ha : DT A X a ta) : DW A X (.BoolOp .Or [a] pos) ta := ⟨pw_or1 ha.pt⟩
theorem dw_and (ha : DT A X a ta) (hb : DW A X (.BoolOp .And (b :: rest) pos) tb) : DW A X (.BoolOp .And (a :: b :: rest) pos) (dAnd ta tb) :=
  ⟨pwImp (pw_and ha.pt hb.pw) fun σ H R ⟨ρ, F, Q, rel, h, k⟩ => ⟨ρ, F, _, rel, h, fun c F1 H1 h1 g1 => by
    cases c with
    | true => exact (if_pos rfl).mpr ⟨ρ, F1, Q, rel.grow g1, h1.1 rfl, fun c F2 H2 q g2 => k c F2 H2 q (g1.trans g2)⟩
    | false => exact (if_neg Bool.false_ne_true).mpr (k false F1 H1 (h1.2 rfl) g1)⟩⟩
theorem dw_or (ha : DT A X a ta) (hb : DW A X (.BoolOp .Or (b :: rest) pos) tb) : DW A X (.BoolOp .Or (a :: b :: rest) pos) (dOr ta tb) :=
  ⟨pwImp (pw_or ha.pt hb.pw) fun σ H R ⟨ρ, F, Q, rel, h, k⟩ => ⟨ρ, F, _, rel, h, fun c F1 H1 h1 g1 => by
    cases c with
    | true => exact (if_pos rfl).mpr (k true F1 H1 (h1.1 rfl) g1)
    | false => exact (if_neg Bool.false_ne_true).mpr ⟨ρ, F1, Q, rel.grow g1, h1.2 rfl, fun c F2 H2 q g2 => k c F2 H2 q (g1.trans g2)⟩⟩⟩
theorem DW.dt (h : DW A X a ta) : DT A X a ta := ⟨h.pw.pt⟩
theorem dt_not (ha : DT A X a ta) : DT A X (.UnaryOp .Not a pos) (dNot ta) :=
  ⟨ptImp (pt_not ha.pt) fun σ H R ⟨ρ, F, Q, rel, h, k⟩ => ⟨ρ, F, _, rel, h, fun c F1 H1 h1 g1 => k (!c) F1 H1 h1 g1⟩⟩
def dAndV (da db : Dte) : Dte := fun ρ Q => da ρ fun x => asB x fun c => (c = true → db ρ Q) ∧ (c = false → Q (.d (.bool false)))
def dOrV (da db : Dte) : Dte := fun ρ Q => da ρ fun x => asB x fun c => (c = true → Q (.d (.bool true))) ∧ (c = false → db ρ Q)
def dNotV (da : Dte) : Dte := fun ρ Q => da ρ fun x => asB x fun c => Q (.d (.bool (!c)))
theorem de_one {op} (h : DE A X a da) : DE A X (.BoolOp op [a] pos) da := ⟨pe_one h.pe⟩
theorem de_and (ha : DE A X a da) (hb : DE A X (.BoolOp .And (b :: rest) pos) db) : DE A X (.BoolOp .And (a :: b :: rest) pos) (dAndV da db) :=
  ⟨peImp (pe_and ha.pe hb.pe) fun σ H R ⟨ρ, F, Q, rel, h, k⟩ => ⟨ρ, F, _, rel, h, fun x v F1 H1 h1 g1 r1 f1 => by
    obtain ⟨c, e, q⟩ := asB_rep h1 r1
    refine ⟨c, e, ?_⟩
    cases c with
    | true => exact (if_pos rfl).mpr ⟨ρ, F1, Q, rel.grow g1, q.1 rfl, fun dv v F2 H2 q g2 rr ff => k dv v F2 H2 q (g1.trans g2) rr (ff.back g1 rr)⟩
    | false => exact (if_neg Bool.false_ne_true).mpr (k _ _ F1 H1 (q.2 rfl) g1 (Rp.bl false) (fresh_no rfl))⟩⟩
theorem de_or (ha : DE A X a da) (hb : DE A X (.BoolOp .Or (b :: rest) pos) db) : DE A X (.BoolOp .Or (a :: b :: rest) pos) (dOrV da db) :=
  ⟨peImp (pe_or ha.pe hb.pe) fun σ H R ⟨ρ, F, Q, rel, h, k⟩ => ⟨ρ, F, _, rel, h, fun x v F1 H1 h1 g1 r1 f1 => by
    obtain ⟨c, e, q⟩ := asB_rep h1 r1
    refine ⟨c, e, ?_⟩
    cases c with
    | true => exact (if_pos rfl).mpr (k _ _ F1 H1 (q.1 rfl) g1 (Rp.bl true) (fresh_no rfl))
    | false => exact (if_neg Bool.false_ne_true).mpr ⟨ρ, F1, Q, rel.grow g1, q.2 rfl, fun dv v F2 H2 q g2 rr ff => k dv v F2 H2 q (g1.trans g2) rr (ff.back g1 rr)⟩⟩⟩
theorem de_not (ha : DE A X a da) : DE A X (.UnaryOp .Not a pos) (dNotV da) :=
  ⟨peImp (pe_not ha.pe) fun σ H R ⟨ρ, F, Q, rel, h, k⟩ => ⟨ρ, F, _, rel, h, fun x v F1 H1 h1 g1 r1 f1 => by
    obtain ⟨c, e, q⟩ := asB_rep h1 r1
    exact ⟨c, e, k _ _ F1 H1 q g1 (Rp.bl (!c)) (fresh_no rfl)⟩⟩⟩
def dIf (t : Dtt) (da db : Dte) : Dte := fun ρ Q => t ρ fun c => (c = true → da ρ Q) ∧ (c = false → db ρ Q)
theorem de_ifExp (hc : DT A X c ta) (ha : DE A X a da) (hb : DE A X b db) : DE A X (.IfExp c a b pos) (dIf ta da db) :=
  ⟨peImp (pe_ifExp hc.pt ha.pe hb.pe) fun σ H R ⟨ρ, F, Q, rel, h, k⟩ => ⟨ρ, F, _, rel, h, fun c F1 H1 h1 g1 => by
    cases c with
    | true => exact (if_pos rfl).mpr ⟨ρ, F1, Q, rel.grow g1, h1.1 rfl, fun dv v F2 H2 q g2 rr ff => k dv v F2 H2 q (g1.trans g2) rr (ff.back g1 rr)⟩
    | false => exact (if_neg Bool.false_ne_true).mpr ⟨ρ, F1, Q, rel.grow g1, h1.2 rfl, fun dv v F2 H2 q g2 rr ff => k dv v F2 H2 q (g1.trans g2) rr (ff.back g1 rr)⟩⟩⟩
def dChain (f g : D2) (da db dc : Dte) : Dte := fun ρ Q => da ρ fun x => db ρ fun y => f x y fun z => asB z fun k => (k = true → dc ρ fun w => g y w Q) ∧ (k = false → Q (.d (.bool false)))
theorem de_chain {op op' : CmpOp} {r r' : R2} {f g : D2} (ho : OpR X (compareOp op) r) (o : OpL A r f) (ho' : OpR X (compareOp op') r') (o' : OpL A r' g) (ha : DE A X a da) (hb : DE A X b db) (hc : DE A X c dc)
    (hm : lastMarks [op, op'] [b, c] = false := by with_unfolding_all rfl) : DE A X (.Compare a [op, op'] [b, c] pos) (dChain f g da db dc) :=
  ⟨peImp (pe_chain ho ho' ha.pe hb.pe hc.pe hm) fun σ H R ⟨ρ, F, Q, rel, h, k⟩ => by
    refine ⟨ρ, F, _, rel, h, fun x v F1 H1 h1 g1 r1 f1 => ?_⟩
    refine ⟨ρ, F1, _, rel.grow g1, h1, fun y w F2 H2 h2 g2 r2 f2 => ?_⟩
    refine o.run F2 H2 x y v w _ _ ((rel.grow g1).grow g2).gr (r1.grow g1.ok g2) r2 h2 fun z u F3 H3 h3 g3 r3 f3 => ?_
    obtain ⟨c, e, q⟩ := asB_rep h3 r3
    refine ⟨c, e, ?_⟩
    have g13 := (g1.trans g2).trans g3
    cases c with
    | true =>
      refine (if_pos rfl).mpr ⟨ρ, F3, _, rel.grow g13, q.1 rfl, fun z' w' F4 H4 h4 g4 r4 f4 => ?_⟩
      refine o'.run F4 H4 y z' w w' Q R (rel.grow (g13.trans g4)).gr (r2.grow g2.ok (g3.trans g4)) r4 h4 fun dv u F' H' q g rr ff => ?_
      exact k dv u F' H' q ((g13.trans g4).trans g) rr (ff.back (g13.trans g4) rr)
    | false => exact (if_neg Bool.false_ne_true).mpr (k _ _ F3 H3 (q.2 rfl) g13 (Rp.bl false) (fresh_no rfl))⟩
theorem dt_chain {op op' : CmpOp} {r r' : R2} {f g : D2} (ho : OpR X (compareOp op) r) (o : OpL A r f) (ho' : OpR X (compareOp op') r') (o' : OpL A r' g) (ha : DE A X a da) (hb : DE A X b db) (hc : DE A X c dc)
    (hm : lastMarks [op, op'] [b, c] = false := by with_unfolding_all rfl) : DT A X (.Compare a [op, op'] [b, c] pos) (dTest (dChain f g da db dc)) :=
  ⟨ptImp (pt_chain ho ho' ha.pe hb.pe hc.pe hm) fun σ H R h => by
    have h := lift_test _ σ H R h
    obtain ⟨ρ, F, Q, rel, h, k⟩ := h
    refine ⟨ρ, F, _, rel, h, fun x v F1 H1 h1 g1 r1 f1 => ?_⟩
    refine ⟨ρ, F1, _, rel.grow g1, h1, fun y w F2 H2 h2 g2 r2 f2 => ?_⟩
    refine o.run F2 H2 x y v w _ _ ((rel.grow g1).grow g2).gr (r1.grow g1.ok g2) r2 h2 fun z u F3 H3 h3 g3 r3 f3 => ?_
    obtain ⟨c, e, q⟩ := asB_rep h3 r3
    refine ⟨c, e, ?_⟩
    have g13 := (g1.trans g2).trans g3
    cases c with
    | true =>
      refine (if_pos rfl).mpr ⟨ρ, F3, _, rel.grow g13, q.1 rfl, fun z' w' F4 H4 h4 g4 r4 f4 => ?_⟩
      refine o'.run F4 H4 y z' w w' Q _ (rel.grow (g13.trans g4)).gr (r2.grow g2.ok (g3.trans g4)) r4 h4 fun dv u F' H' q g rr ff => ?_
      exact k dv u F' H' q ((g13.trans g4).trans g) rr (ff.back (g13.trans g4) rr)
    | false => exact (if_neg Bool.false_ne_true).mpr (k _ _ F3 H3 (q.2 rfl) g13 (Rp.bl false) (fresh_no rfl))⟩
structure UnL (A : Anc) (r : V → Hp → VK → Prop) (f : D1) : Prop where
  run : ∀ F H x v Q R, Gr A.S A.F0 A.H0 F H → Rep A.H0 A.S F H x v → f x Q → (∀ dv u F' H', Q dv → Gr A.S F H F' H' → Rep A.H0 A.S F' H' dv u → Fresh H dv u → R u H') → r v H R
theorem de_un {op : UnaryOp} {r : V → Hp → VK → Prop} {f : D1} (ho : UnR X (unaryOp op) r) (o : UnL A r f) (ha : DE A X a da) : DE A X (.UnaryOp op a pos) (dUn f da) :=
  ⟨peImp (pe_un ho ha.pe) fun σ H R ⟨ρ, F, Q, rel, h, k⟩ => ⟨ρ, F, _, rel, h, fun x v F1 H1 h1 g1 r1 f1 => o.run F1 H1 x v Q R (rel.grow g1).gr r1 h1 fun dv u F' H' q g rr ff => k dv u F' H' q (g1.trans g) rr (ff.back g1 rr)⟩⟩
end
end Dl
namespace Dl
open PySem L2 Gk
/-! operators on data -/
theorem oprOr {X : Cx} {f : Value → Value → Sem Value} {r r' : R2} (h : OpR X f r) (h' : OpR X f r') : OpR X f (fun x y H Q => r x y H Q ∨ r' x y H Q) := by
  intro pins s σ H x y v u Q I rx ry q
  rcases q with q | q
  · exact h pins s σ H x y v u Q I rx ry q
  · exact h' pins s σ H x y v u Q I rx ry q
def DV.lst : DV → Option (List PyData)
  | .d (.list xs) => some xs
  | .l _ xs => some xs
  | _ => none
def DV.tup : DV → Option (List PyData)
  | .d (.tuple xs) => some xs
  | _ => none
def DV.seq : DV → Option (List PyData)
  | .d (.list xs) => some xs
  | .d (.tuple xs) => some xs
  | .l _ xs => some xs
  | _ => none
def DV.dat : DV → Option PyData
  | .d x => some x
  | .l _ xs => some (.list xs)
  | _ => none
/-- stored: data from then on -/
def DV.sto : DV → Option PyData
  | .d x => some x
  | .l .mine xs => some (.list xs)
  | _ => none
section
variable {H0 : Hp} {S : Option (Addr × Addr)} {F : Addr → Prop} {H : Hp} {x y : DV} {v : V}
theorem rep_lst {xs : List PyData} (e : x.lst = some xs) (ok : Ok S F H) (r : Rep H0 S F H x v) : ∃ a vs, v = .ref a ∧ H a = some (.lst vs) ∧ ¬ bad S a ∧ RpA F H vs xs := by
  cases x with
  | d z =>
    cases z <;> cases e
    have r : Rp F H v (.list xs) := r
    cases r with
    | lst f e r => exact ⟨_, _, rfl, e, ok.b _ f, r⟩
  | l w z => cases e; obtain ⟨a, vs, e, h1, h2, h3, h4⟩ := r; exact ⟨a, vs, e, h1, h2, h3⟩
  | _ => cases e
theorem rep_tup {xs : List PyData} (e : x.tup = some xs) (r : Rep H0 S F H x v) : ∃ a vs, v = .ref a ∧ H a = some (.tup vs) ∧ F a ∧ RpA F H vs xs := by
  cases x with
  | d z =>
    cases z <;> cases e
    have r : Rp F H v (.tuple xs) := r
    cases r with
    | tup f e r => exact ⟨_, _, rfl, e, f, r⟩
  | _ => cases e
theorem rep_seq {K : PySem.W.Frag} {xs : List PyData} (e : x.seq = some xs) (ok : Ok S F H) (r : Rep H0 S F H x v) : ∃ a vs, v = .ref a ∧ (SqL K H a vs ∨ SqT K H a vs) ∧ RpA F H vs xs := by
  cases x with
  | d z =>
    cases z <;> cases e
    · have r : Rp F H v (.list xs) := r
      cases r with
      | lst f e r => exact ⟨_, _, rfl, .inl (SqL.of e), r⟩
    · have r : Rp F H v (.tuple xs) := r
      cases r with
      | tup f e r => exact ⟨_, _, rfl, .inr (SqT.of e), r⟩
  | l w z => cases e; obtain ⟨a, vs, e, h1, h2, h3, h4⟩ := r; exact ⟨a, vs, e, .inl (SqL.of h1), h3⟩
  | _ => cases e
theorem rep_dat {K : PySem.W.Frag} {z : PyData} (e : x.dat = some z) (r : Rep H0 S F H x v) : Dp K H v z := by
  cases x with
  | d z => cases e; exact Rp.dp r
  | l w z => cases e; obtain ⟨a, vs, e, h1, h2, h3, h4⟩ := r; subst e; exact .lst (SqL.of h1) h3.dp
  | _ => cases e
theorem rep_int {i : Int} (r : Rep H0 S F H (.d (.int i)) v) : v = .int i := by
  have r : Rp F H v (.int i) := r
  cases r; rfl
theorem rep_bl {i : Bool} (r : Rep H0 S F H (.d (.bool i)) v) : v = .bl i := by
  have r : Rp F H v (.bool i) := r
  cases r; rfl
theorem rep_str {i : Str} (r : Rep H0 S F H (.d (.str i)) v) : v = .str i := by
  have r : Rp F H v (.str i) := r
  cases r; rfl
theorem rep_sc {x : PyData} {v : V} (h : Rp F H v x) : Rep H0 S F H (.d x) v := h
/-- a new list, a new tuple -/
theorem new_lst {vs : List V} {ds : List PyData} {p : Addr} (ok : Ok S F H) (hp : H p = none) (r : RpA F H vs ds) : Rep H0 S F (upd H p (.lst vs)) (.l .mine ds) (.ref p) :=
  ⟨p, vs, rfl, upd_same, bad_none ok hp, r.stg ((Gr.newO ok hp).stg ok), fun f => by obtain ⟨o, q⟩ := ok.f p f; rw [hp] at q; cases q⟩
theorem new_tup {vs : List V} {ds : List PyData} {p : Addr} (ok : Ok S F H) (hp : H p = none) (r : RpA F H vs ds) : Rep H0 S (fun a => F a ∨ a = p) (upd H p (.tup vs)) (.d (.tuple ds)) (.ref p) :=
  .tup (.inr rfl) upd_same (r.stg ((Gr.newF ok hp).stg ok))
theorem fresh_ref {p : Addr} (hp : H p = none) : Fresh H x (.ref p) := fun _ a e => by cases e; exact hp
end
section
variable {A : Anc}
/-- ints in, an int or a bool out -/
def intD (C : Int → Int → Prop) (g : Int → Int → PyData) : D2
  | .d (.int i), .d (.int j), Q => C i j ∧ Q (.d (g i j))
  | _, _, _ => False
theorem intL {C C' : Int → Int → Prop} {g : Int → Int → PyData} {g' : Int → Int → V} (hC : ∀ i j, C i j → C' i j) (hg : ∀ F H i j, Rp F H (g' i j) (g i j)) : OpL A (rI C' g') (intD C g) := by
  refine ⟨fun F H x y v w Q R an rx ry h k => ?_⟩
  unfold intD at h
  split at h
  · refine ⟨_, _, rep_int rx, rep_int ry, hC _ _ h.1, k _ _ F H h.2 (Gr.refl an.ok) (hg F H _ _) (fresh_no rfl)⟩
  · exact h.elim
def int0D (g : Int → Int → PyData) : D2
  | .d (.int i), .d (.int j), Q => Q (.d (g i j))
  | _, _, _ => False
theorem int0L {g : Int → Int → PyData} {g' : Int → Int → V} (hg : ∀ F H i j, Rp F H (g' i j) (g i j)) : OpL A (rI0 g') (int0D g) := by
  refine ⟨fun F H x y v w Q R an rx ry h k => ?_⟩
  unfold int0D at h
  split at h
  · exact ⟨_, _, rep_int rx, rep_int ry, k _ _ F H h (Gr.refl an.ok) (hg F H _ _) (fresh_no rfl)⟩
  · exact h.elim
/-- + -/
def addD : D2
  | .d (.int i), .d (.int j), Q => Q (.d (.int (i + j)))
  | .d (.str a), .d (.str b), Q => a.length + b.length ≤ sizeLine ∧ Q (.d (.str (a ++ b)))
  | .d (.tuple xs), .d (.tuple ys), Q => xs.length + ys.length ≤ sizeLine ∧ Q (.d (.tuple (xs ++ ys)))
  | x, y, Q => match x.lst, y.lst with
    | some xs, some ys => xs.length + ys.length ≤ sizeLine ∧ Q (.l .mine (xs ++ ys))
    | _, _ => False
def rAdS : R2 := fun x y H Q => ∃ i j, x = .str i ∧ y = .str j ∧ i.length + j.length ≤ sizeLine ∧ Q (.str (i ++ j)) H
def rAddU (K : PySem.W.Frag) : R2 := fun x y H Q => rI0 (fun i j => .int (i + j)) x y H Q ∨ (rCatA K x y H Q ∨ (rCat x y H Q ∨ rAdS x y H Q))
theorem op_addU {X : Cx} : OpR X (binaryOp .Add) (rAddU X.K) := oprOr op_add (oprOr op_catA (oprOr op_cat op_add_str))
theorem addL : OpL A (rAddU A.K) addD := by
  refine ⟨fun F H x y v w Q R an rx ry h k => ?_⟩
  unfold addD at h
  split at h
  · exact .inl ⟨_, _, rep_int rx, rep_int ry, k _ _ F H h (Gr.refl an.ok) (Rp.int _) (fresh_no rfl)⟩
  · exact .inr (.inr (.inr ⟨_, _, rep_str rx, rep_str ry, h.1, k _ _ F H h.2 (Gr.refl an.ok) (Rp.str _) (fresh_no rfl)⟩))
  · rename_i xs ys
    obtain ⟨a, vs, rfl, h1, f1, r1⟩ := rep_tup (xs := xs) rfl rx
    obtain ⟨b, ws, rfl, h2, f2, r2⟩ := rep_tup (xs := ys) rfl ry
    refine .inr (.inl ⟨a, b, vs, ws, rfl, rfl, SqT.of h1, SqT.of h2, by rw [r1.len, r2.len]; exact h.1, fun e => ?_, fun _ e => ?_, fun _ _ p hp => ?_⟩)
    · subst e
      cases r1
      exact k _ _ F H h.2 (Gr.refl an.ok) ry (fresh_no rfl)
    · subst e
      cases r2
      exact k _ _ F H h.2 (Gr.refl an.ok) (by rw [List.append_nil]; exact rx) (fresh_no rfl)
    · exact k _ _ _ _ h.2 (Gr.newF an.ok hp) (new_tup an.ok hp (r1.app r2)) (fresh_no rfl)
  · split at h
    · rename_i xs ys e1 e2
      obtain ⟨a, vs, rfl, h1, f1, r1⟩ := rep_lst e1 an.ok rx
      obtain ⟨b, ws, rfl, h2, f2, r2⟩ := rep_lst e2 an.ok ry
      refine .inr (.inr (.inl ⟨a, b, vs, ws, rfl, rfl, h1, h2, by rw [r1.len, r2.len]; exact h.1, fun p hp => ?_⟩))
      exact k _ _ _ _ h.2 (Gr.newO an.ok hp) (new_lst an.ok hp (r1.app r2)) (fresh_ref hp)
    · exact h.elim
theorem subL : OpL A (rI0 fun i j => .int (i - j)) (int0D fun i j => .int (i - j)) := int0L fun _ _ _ _ => .int _
/-- * -/
def mulD : D2
  | .d (.int i), .d (.int j), Q => CMulG i j ∧ Q (.d (.int (i * j)))
  | .d (.tuple xs), .d (.int k), Q => xs ≠ [] ∧ 2 ≤ k ∧ k ≤ 1000 ∧ xs.length ≤ 1000 ∧ Q (.d (.tuple (List.replicate k.toNat xs).flatten))
  | x, y, Q => match x.lst, y with
    | some xs, .d (.int k) => -(2 ^ 63) ≤ k ∧ k < 2 ^ 63 ∧ xs.length * k.toNat ≤ sizeLine ∧ Q (.l .mine (List.replicate k.toNat xs).flatten)
    | _, _ => False
def rMulU (K : PySem.W.Frag) : R2 := fun x y H Q => rI CMulG (fun i j => .int (i * j)) x y H Q ∨ (rRep x y H Q ∨ rRepT K x y H Q)
theorem op_mulU {X : Cx} : OpR X (binaryOp .Mult) (rMulU X.K) := oprOr op_mulG (oprOr op_rep op_repT)
theorem rpa_rep {F : Addr → Prop} {H : Hp} {vs : List V} {ds : List PyData} (h : RpA F H vs ds) : ∀ n, RpA F H (List.replicate n vs).flatten (List.replicate n ds).flatten
  | 0 => .nil
  | n + 1 => by
    rw [List.replicate_succ, List.replicate_succ, List.flatten_cons, List.flatten_cons]
    exact h.app (rpa_rep h n)
theorem mulL : OpL A (rMulU A.K) mulD := by
  refine ⟨fun F H x y v w Q R an rx ry h k => ?_⟩
  unfold mulD at h
  split at h
  · exact .inl ⟨_, _, rep_int rx, rep_int ry, h.1, k _ _ F H h.2 (Gr.refl an.ok) (Rp.int _) (fresh_no rfl)⟩
  · rename_i xs n
    obtain ⟨a, vs, rfl, h1, f1, r1⟩ := rep_tup (xs := xs) rfl rx
    refine .inr (.inr ⟨a, n, vs, rfl, rep_int ry, SqT.of h1, fun e => ?_, h.2.1, h.2.2.1, by rw [r1.len]; exact h.2.2.2.1, fun p hp => ?_⟩)
    · subst e; cases r1; exact h.1 rfl
    · exact k _ _ _ _ h.2.2.2.2 (Gr.newF an.ok hp) (new_tup an.ok hp (rpa_rep r1 _)) (fresh_no rfl)
  · split at h
    · rename_i xs n e1 _ _
      obtain ⟨a, vs, rfl, h1, f1, r1⟩ := rep_lst e1 an.ok rx
      refine .inr (.inl ⟨a, n, vs, rfl, rep_int ry, h1, h.1, h.2.1, by rw [r1.len]; exact h.2.2.1, fun p hp => ?_⟩)
      exact k _ _ _ _ h.2.2.2 (Gr.newO an.ok hp) (new_lst an.ok hp (rpa_rep r1 _)) (fresh_ref hp)
    · exact h.elim
theorem modL : OpL A (rI (fun _ j => 0 < j) fun i j => .int (i % j)) (intD (fun _ j => 0 < j) fun i j => .int (i % j)) := intL (fun _ _ h => h) fun _ _ _ _ => .int _
theorem fdivL : OpL A (rI CDivW fun i j => .int (i / j)) (intD CDivW fun i j => .int (i / j)) := intL (fun _ _ h => h) fun _ _ _ _ => .int _
theorem powL : OpL A (rI CPow fun i j => .int (i ^ j.toNat)) (intD CPow fun i j => .int (i ^ j.toNat)) := intL (fun _ _ h => h) fun _ _ _ _ => .int _
theorem shlL : OpL A (rI CPow fun i j => .int (i * 2 ^ j.toNat)) (intD CPow fun i j => .int (i * 2 ^ j.toNat)) := intL (fun _ _ h => h) fun _ _ _ _ => .int _
theorem shrL : OpL A (rI (fun _ j => 0 ≤ j) fun i j => .int (i / 2 ^ j.toNat)) (intD (fun _ j => 0 ≤ j) fun i j => .int (i / 2 ^ j.toNat)) := intL (fun _ _ h => h) fun _ _ _ _ => .int _
theorem andL : OpL A (rI0 fun i j => .int (Builtin.bitAnd i j)) (int0D fun i j => .int (Builtin.bitAnd i j)) := int0L fun _ _ _ _ => .int _
def negD : D1
  | .d (.int i), Q => Q (.d (.int (-i)))
  | _, _ => False
theorem negL : UnL A (rU fun i => .int (-i)) negD := by
  refine ⟨fun F H x v Q R an rx h k => ?_⟩
  unfold negD at h
  split at h
  · exact ⟨_, rep_int rx, k _ _ F H h (Gr.refl an.ok) (Rp.int _) (fresh_no rfl)⟩
  · exact h.elim
/-! comparisons -/
def intsOf : List PyData → Option (List Int)
  | [] => some []
  | .int i :: r => (intsOf r).map (i :: ·)
  | _ => none
theorem intsOf_map : ∀ ns : List Int, intsOf (ns.map PyData.int) = some ns
  | [] => rfl
  | n :: ns => by rw [List.map_cons, intsOf, intsOf_map ns]; rfl
theorem intsOf_eq : ∀ {ds : List PyData} {ns : List Int}, intsOf ds = some ns → ds = ns.map PyData.int
  | [], _, h => by cases h; rfl
  | .int i :: r, ns, h => by
    unfold intsOf at h
    cases e : intsOf r with
    | none => rw [e] at h; cases h
    | some m => rw [e] at h; cases h; rw [intsOf_eq e]; rfl
def ltD : D2
  | .d (.int i), .d (.int j), Q => Q (.d (.bool (decide (i < j))))
  | .d (.tuple xs), .d (.tuple ys), Q => match intsOf xs, intsOf ys with
    | some ns, some ms => Q (.d (.bool (HT.lexLt ns ms)))
    | _, _ => False
  | _, _, _ => False
def rLtU (K : PySem.W.Frag) : R2 := fun x y H Q => rI0 (fun i j => .bl (decide (i < j))) x y H Q ∨ rLtT K x y H Q
theorem op_ltU {X : Cx} (hu : X.A.units + 64 < cLine) : OpR X (compareOp .Lt) (rLtU X.K) := oprOr op_lt (op_ltT (by omega))
theorem ltL : OpL A (rLtU A.K) ltD := by
  refine ⟨fun F H x y v w Q R an rx ry h k => ?_⟩
  unfold ltD at h
  split at h
  · exact .inl ⟨_, _, rep_int rx, rep_int ry, k _ _ F H h (Gr.refl an.ok) (Rp.bl _) (fresh_no rfl)⟩
  · rename_i xs ys
    split at h
    · rename_i ns ms e1 e2
      obtain ⟨a, vs, rfl, h1, f1, r1⟩ := rep_tup (xs := xs) rfl rx
      obtain ⟨b, ws, rfl, h2, f2, r2⟩ := rep_tup (xs := ys) rfl ry
      rw [intsOf_eq e1] at r1
      rw [intsOf_eq e2] at r2
      rw [r1.ints] at h1
      rw [r2.ints] at h2
      exact .inr ⟨a, b, ns, ms, rfl, rfl, SqT.of h1, SqT.of h2, k _ _ F H h (Gr.refl an.ok) (Rp.bl _) (fresh_no rfl)⟩
    · exact h.elim
  · exact h.elim
theorem leL : OpL A (rI0 fun i j => .bl (decide (i ≤ j))) (int0D fun i j => .bool (decide (i ≤ j))) := int0L fun _ _ _ _ => .bl _
theorem gtL : OpL A (rI0 fun i j => .bl (decide (j < i))) (int0D fun i j => .bool (decide (j < i))) := int0L fun _ _ _ _ => .bl _
theorem geL : OpL A (rI0 fun i j => .bl (decide (j ≤ i))) (int0D fun i j => .bool (decide (j ≤ i))) := int0L fun _ _ _ _ => .bl _
def eqD (n : Bool) : D2
  | .d (.int i), .d (.int j), Q => Q (.d (.bool (n ^^ decide (i = j))))
  | .d (.str i), .d (.str j), Q => Q (.d (.bool (n ^^ decide (i = j))))
  | .dk _ kvs, .dk _ [], Q => Q (.d (.bool (n ^^ kvs.isEmpty)))
  | x, y, Q => match x.dat, y.dat with
    | some a, some b => SeqAt.shaped a = true ∧ SeqAt.shaped b = true ∧ Q (.d (.bool (n ^^ PyData.eqv a b)))
    | _, _ => False
def rEqU (K : PySem.W.Frag) : R2 := fun x y H Q => rEq x y H Q ∨ rEqD K x y H Q
def rNeU (K : PySem.W.Frag) : R2 := fun x y H Q => rNe x y H Q ∨ rNeD K x y H Q
theorem op_eqU {X : Cx} (hu : X.A.units + 64 < cLine) : OpR X (compareOp .Eq) (rEqU X.K) := oprOr op_eq (op_eqD hu)
theorem op_neU {X : Cx} (hu : X.A.units + 64 < cLine) : OpR X (compareOp .NotEq) (rNeU X.K) := oprOr op_ne (op_neD hu)
end
end Dl
namespace Dl
open PySem L2 Gk
mutual
theorem dp_plain {K : PySem.W.Frag} {H : Hp} : ∀ (d : PyData) (v : V), Dp K H v d → d.plain = true
  | .none, _, _ => rfl
  | .bool _, _, _ => rfl
  | .int _, _, _ => rfl
  | .str _, _, _ => rfl
  | .list ds, _, h => by
    cases h with
    | lst _ h2 => rw [PyData.plain]; exact dpAll_plain ds _ h2
  | .tuple ds, _, h => by
    cases h with
    | tup _ h2 => rw [PyData.plain]; exact dpAll_plain ds _ h2
  | .dict _, _, h => by cases h
theorem dpAll_plain {K : PySem.W.Frag} {H : Hp} : ∀ (ds : List PyData) (vs : List V), DpAll K H vs ds → PyData.plainAll ds = true
  | [], _, _ => rfl
  | d :: ds, _, h => by
    cases h with
    | cons h1 h2 => rw [PyData.plainAll, dp_plain d _ h1, dpAll_plain ds _ h2]; rfl
end
section
variable {X : Cx}
def rEqP (K : PySem.W.Frag) (n : Bool) : R2 := fun x y H Q => ∃ d e, Dp K H x d ∧ Dp K H y e ∧ min d.depth e.depth ≤ 60 ∧ Q (.bl (n ^^ PyData.eqv d e)) H
theorem op_eqP (hu : X.A.units + 64 < cLine) : OpR X (compareOp .Eq) (rEqP X.K false) := by
  intro pins s σ H x y v u Q I rx ry h
  obtain ⟨d, e, hd, he, hm, q⟩ := h
  obtain ⟨as, r1⟩ := Dp.reads I d x v hd rx
  obtain ⟨bs, r2⟩ := Dp.reads I e y u he ry
  exact SeqAt.eq_plain r1 r2 (dp_plain d x hd) (dp_plain e y he) (by omega) ⟨.bl _, H, I, rfl, by rw [← Bool.false_xor (PyData.eqv d e)]; exact q⟩
theorem op_neP (hu : X.A.units + 64 < cLine) : OpR X (compareOp .NotEq) (rEqP X.K true) := by
  intro pins s σ H x y v u Q I rx ry h
  obtain ⟨d, e, hd, he, hm, q⟩ := h
  obtain ⟨as, r1⟩ := Dp.reads I d x v hd rx
  obtain ⟨bs, r2⟩ := Dp.reads I e y u he ry
  exact SeqAt.ne_plain r1 r2 (dp_plain d x hd) (dp_plain e y he) (by omega) ⟨.bl _, H, I, rfl, by rw [← Bool.true_xor (PyData.eqv d e)]; exact q⟩
/-- x in c, any data -/
def rInP (K : PySem.W.Frag) (n : Bool) : R2 := fun x y H Q => ∃ d ds, Dp K H x d ∧ (Dp K H y (.list ds) ∨ Dp K H y (.tuple ds)) ∧ d.depth ≤ 60 ∧ Q (.bl (n ^^ ds.any fun z => PyData.eqv z d)) H
theorem op_inP (hu : X.A.units + 64 < cLine) : OpR X (compareOp .In) (rInP X.K false) := by
  intro pins s σ H x y v u Q I rx ry h
  obtain ⟨d, ds, hd, he, hm, q⟩ := h
  obtain ⟨as, r1⟩ := Dp.reads I d x v hd rx
  rw [Bool.false_xor] at q
  rcases he with he | he
  · obtain ⟨bs, r2⟩ := Dp.reads I (.list ds) y u he ry
    have p := dp_plain _ y he
    rw [PyData.plain] at p
    exact SeqAt.in_list_data r2 r1 p (dp_plain d x hd) (by omega) ⟨.bl _, H, I, rfl, q⟩
  · obtain ⟨bs, r2⟩ := Dp.reads I (.tuple ds) y u he ry
    have p := dp_plain _ y he
    rw [PyData.plain] at p
    exact SeqAt.in_tuple_data r2 r1 p (dp_plain d x hd) (by omega) ⟨.bl _, H, I, rfl, q⟩
theorem op_niP (hu : X.A.units + 64 < cLine) : OpR X (compareOp .NotIn) (rInP X.K true) := by
  intro pins s σ H x y v u Q I rx ry h
  obtain ⟨d, ds, hd, he, hm, q⟩ := h
  obtain ⟨as, r1⟩ := Dp.reads I d x v hd rx
  rw [Bool.true_xor] at q
  rcases he with he | he
  · obtain ⟨bs, r2⟩ := Dp.reads I (.list ds) y u he ry
    have p := dp_plain _ y he
    rw [PyData.plain] at p
    exact SeqAt.notIn_list_data r2 r1 p (dp_plain d x hd) (by omega) ⟨.bl _, H, I, rfl, q⟩
  · obtain ⟨bs, r2⟩ := Dp.reads I (.tuple ds) y u he ry
    have p := dp_plain _ y he
    rw [PyData.plain] at p
    exact SeqAt.notIn_tuple_data r2 r1 p (dp_plain d x hd) (by omega) ⟨.bl _, H, I, rfl, q⟩
end
section
variable {A : Anc}
/-- == and != (n) -/
def eqP (n : Bool) : D2
  | .d (.int i), .d (.int j), Q => Q (.d (.bool (n ^^ decide (i = j))))
  | .d (.str i), .d (.str j), Q => Q (.d (.bool (n ^^ decide (i = j))))
  | x, y, Q => match x.dat, y.dat with
    | some a, some b => min a.depth b.depth ≤ 60 ∧ Q (.d (.bool (n ^^ PyData.eqv a b)))
    | _, _ => False
theorem eqPL (n : Bool) : OpL A (rEqP A.K n) (eqP n) := by
  refine ⟨fun F H x y v w Q R an rx ry h k => ?_⟩
  unfold eqP at h
  split at h
  · rename_i i j
    refine ⟨_, _, rep_dat (K := A.K) rfl rx, rep_dat (K := A.K) rfl ry, by simp only [PyData.depth]; omega, ?_⟩
    have e : PyData.eqv (.int i) (.int j) = decide (i = j) := by simp only [PyData.eqv]; exact (by rw [Bool.eq_iff_iff, beq_iff_eq, decide_eq_true_eq])
    rw [e]
    exact k _ _ F H h (Gr.refl an.ok) (Rp.bl _) (fresh_no rfl)
  · rename_i i j
    refine ⟨_, _, rep_dat (K := A.K) rfl rx, rep_dat (K := A.K) rfl ry, by simp only [PyData.depth]; omega, ?_⟩
    have e : PyData.eqv (.str i) (.str j) = decide (i = j) := by simp only [PyData.eqv]; exact (by rw [Bool.eq_iff_iff, beq_iff_eq, decide_eq_true_eq])
    rw [e]
    exact k _ _ F H h (Gr.refl an.ok) (Rp.bl _) (fresh_no rfl)
  · split at h
    · rename_i a b e1 e2
      exact ⟨a, b, rep_dat (K := A.K) e1 rx, rep_dat (K := A.K) e2 ry, h.1, k _ _ F H h.2 (Gr.refl an.ok) (Rp.bl _) (fresh_no rfl)⟩
    · exact h.elim
/-- in, not in (n), of lists and tuples -/
def inP (n : Bool) : D2 := fun x y Q => match x.dat, y.seq with
    | some a, some ds => a.depth ≤ 60 ∧ Q (.d (.bool (n ^^ ds.any fun z => PyData.eqv z a)))
    | _, _ => False
theorem rep_seqD {K : PySem.W.Frag} {H0 : Hp} {S : Option (Addr × Addr)} {F : Addr → Prop} {H : Hp} {x : DV} {v : V} {xs : List PyData} (e : x.seq = some xs) (r : Rep H0 S F H x v) : Dp K H v (.list xs) ∨ Dp K H v (.tuple xs) := by
  cases x with
  | d z =>
    cases z <;> cases e
    · exact .inl (rep_dat (K := K) rfl r)
    · exact .inr (rep_dat (K := K) rfl r)
  | l w z => cases e; exact .inl (rep_dat (K := K) rfl r)
  | _ => cases e
theorem inPL (n : Bool) : OpL A (rInP A.K n) (inP n) := by
  refine ⟨fun F H x y v w Q R an rx ry h k => ?_⟩
  unfold inP at h
  split at h
  · rename_i a ds e1 e2
    exact ⟨a, ds, rep_dat (K := A.K) e1 rx, rep_seqD e2 ry, h.1, k _ _ F H h.2 (Gr.refl an.ok) (Rp.bl _) (fresh_no rfl)⟩
  · exact h.elim
/-- is None, is True -/
def isP (n : Bool) : D2
  | .d .none, .d .none, Q => Q (.d (.bool (n ^^ true)))
  | .d (.bool a), .d (.bool b), Q => Q (.d (.bool (n ^^ decide (a = b))))
  | .src, .d .none, _ => False
  | _, .d .none, Q => Q (.d (.bool (n ^^ false)))
  | _, _, _ => False
def rIsU (n : Bool) : R2 := fun x y H Q => (y = .non ∧ Q (.bl (n ^^ decide (x = .non))) H) ∨ (∃ a b : Bool, x = .bl a ∧ y = .bl b ∧ Q (.bl (n ^^ decide (a = b))) H)
theorem op_isU {X : Cx} : OpR X (compareOp .Is) (rIsU false) := by
  intro pins s σ H x y v u Q I rx ry h
  rcases h with ⟨e, q⟩ | ⟨a, b, e1, e2, q⟩
  · exact op_isN pins s σ H x y v u Q I rx ry ⟨e, by rw [Bool.false_xor] at q; exact q⟩
  · exact op_isBl pins s σ H x y v u Q I rx ry ⟨a, b, e1, e2, by rw [Bool.false_xor] at q; exact q⟩
theorem op_inU {X : Cx} : OpR X (compareOp .IsNot) (rIsU true) := by
  intro pins s σ H x y v u Q I rx ry h
  rcases h with ⟨e, q⟩ | ⟨a, b, e1, e2, q⟩
  · exact op_notN pins s σ H x y v u Q I rx ry ⟨e, by rw [Bool.true_xor] at q; exact q⟩
  · exact op_notBl pins s σ H x y v u Q I rx ry ⟨a, b, e1, e2, by rw [Bool.true_xor] at q; exact q⟩
theorem rep_non {H0 : Hp} {S : Option (Addr × Addr)} {F : Addr → Prop} {H : Hp} {v : V} (r : Rep H0 S F H (.d .none) v) : v = .non := by
  have r : Rp F H v .none := r
  cases r; rfl
theorem isPL (n : Bool) : OpL A (rIsU n) (isP n) := by
  refine ⟨fun F H x y v w Q R an rx ry h k => ?_⟩
  unfold isP at h
  split at h
  · rw [rep_non rx, rep_non ry]
    exact .inl ⟨rfl, by rw [decide_eq_true rfl]; exact k _ _ F H h (Gr.refl an.ok) (Rp.bl _) (fresh_no rfl)⟩
  · rw [rep_bl rx, rep_bl ry]
    exact .inr ⟨_, _, rfl, rfl, k _ _ F H h (Gr.refl an.ok) (Rp.bl _) (fresh_no rfl)⟩
  · exact h.elim
  · rename_i hx _ hs
    rw [rep_non ry]
    refine .inl ⟨rfl, ?_⟩
    have e : v ≠ .non := by
      intro e
      subst e
      cases x with
      | d z => have rx : Rp F H .non z := rx; cases rx; first | contradiction | (rename_i hq; exact hq rfl) | simp_all
      | l w z => obtain ⟨a, vs, e, _⟩ := rx; cases e
      | dk w z => obtain ⟨a, vs, e, _⟩ := rx; cases e
      | dt w z => obtain ⟨a, vs, e, _⟩ := rx; cases e
      | src => obtain ⟨a, vs, e, _⟩ := rx; cases e
    rw [decide_eq_false e]
    exact k _ _ F H h (Gr.refl an.ok) (Rp.bl _) (fresh_no rfl)
  · exact h.elim
/-! items, cuts -/
def ixD : D2 := fun x y Q => match x.seq, y with
  | some ds, .d (.int i) => ∃ z, atI ds i = some z ∧ Q (.d z)
  | _, _ => False
theorem atI_rep {F : Addr → Prop} {H : Hp} {vs : List V} {ds : List PyData} {i : Int} {z : PyData} (r : RpA F H vs ds) (h : atI ds i = some z) : ∃ x, atI vs i = some x ∧ Rp F H x z := by
  unfold atI at *
  rw [r.len]
  cases e : ixN ds.length i with
  | none => rw [e] at h; cases h
  | some j => rw [e] at h; exact r.get2 h
theorem ixL : OpL A (rIx A.K) ixD := by
  refine ⟨fun F H x y v w Q R an rx ry h k => ?_⟩
  unfold ixD at h
  split at h
  · rename_i ds i e1
    obtain ⟨z, h1, q⟩ := h
    obtain ⟨a, vs, rfl, h2, r⟩ := rep_seq (K := A.K) e1 an.ok rx
    obtain ⟨u, h3, r3⟩ := atI_rep r h1
    rcases h2 with h2 | h2
    · exact .inl ⟨a, vs, i, u, rfl, rep_int ry, h2, h3, k _ _ F H q (Gr.refl an.ok) r3 (fresh_no rfl)⟩
    · exact .inr (.inl ⟨a, vs, i, u, rfl, rep_int ry, h2, h3, k _ _ F H q (Gr.refl an.ok) r3 (fresh_no rfl)⟩)
  · exact h.elim
theorem de_ix {X : Cx} {a b : Expr} {pos : Pos} {da db : Dte} (ha : DE A X a da) (hb : DE A X b db) (hs : PlainIx b := by exact fun _ _ => rfl) (hk : X.K = A.K := by rfl) : DE A X (.Subscript a b pos) (dOp ixD da db) :=
  ⟨peImp (pe_ix ix_seq ha.pe hb.pe hs) fun σ H R h => hk ▸ lift_op ixL σ H R h⟩
def cutD (xs : List PyData) (lo hi : Option Int) : List PyData := (xs.drop (HT.sIx xs.length 0 lo)).take (HT.sIx xs.length xs.length hi - HT.sIx xs.length 0 lo)
theorem cut_rep {F : Addr → Prop} {H : Hp} {vs : List V} {ds : List PyData} (r : RpA F H vs ds) (lo hi : Option Int) : RpA F H (cutV vs lo hi) (cutD ds lo hi) := by
  unfold cutV cutD
  rw [r.len]
  exact (r.drop _).take _
abbrev Dto := Ds → (Option Int → Prop) → Prop
def liftO (A : Anc) (d : Dto) : TO := fun σ H R => ∃ ρ F Q, Rel A ρ F σ H ∧ d ρ Q ∧ ∀ i F' H', Q i → Gr A.S F H F' H' → R i H'
def dNo : Dto := fun _ Q => Q none
def asI : DV → (Int → Prop) → Prop
  | .d (.int i), Q => Q i
  | _, _ => False
def dPart (d : Dte) : Dto := fun ρ Q => d ρ fun x => asI x fun i => Q (some i)
structure DO (A : Anc) (X : Cx) (e : Option Expr) (d : Dto) : Prop where
  po : PO X e (liftO A d)
theorem poImp {X : Cx} {e : Option Expr} {t t' : TO} (h : PO X e t) (w : ∀ σ H Q, t' σ H Q → t σ H Q) : PO X e t' := ⟨fun pins s σ H Q I q => h.run pins s σ H Q I (w σ H Q q)⟩
theorem do_none {X : Cx} : DO A X none dNo := ⟨poImp po_none fun σ H R ⟨ρ, F, Q, r, h, k⟩ => k none F H h (Gr.refl r.ok)⟩
theorem do_some {X : Cx} {e : Expr} {d : Dte} (h : DE A X e d) : DO A X (some e) (dPart d) := ⟨poImp (po_some h.pe) fun σ H R ⟨ρ, F, Q, r, h, k⟩ => ⟨ρ, F, _, r, h, fun x v F1 H1 h1 g1 r1 f1 => by
  unfold asI at h1
  split at h1
  · exact ⟨_, rep_int r1, k _ F1 H1 h1 g1⟩
  · exact h1.elim⟩⟩
def slD (x : DV) (lo hi : Option Int) (Q : DV → Prop) : Prop := match x with
  | .d (.tuple ds) => Q (.d (.tuple (cutD ds lo hi)))
  | x => match x.lst with
    | some ds => Q (.l .mine (cutD ds lo hi))
    | _ => False
def dSl (de : Dte) (dl dh : Dto) : Dte := fun ρ Q => de ρ fun x => dl ρ fun l => dh ρ fun h => slD x l h Q
theorem cut_whole {xs : List V} {lo hi : Option Int} (h : HT.sIx xs.length 0 lo = 0 ∧ HT.sIx xs.length xs.length hi = xs.length) : cutV xs lo hi = xs := by
  unfold cutV
  rw [h.1, h.2, List.drop_zero, Nat.sub_zero, List.take_length]
theorem de_sl {X : Cx} {a : Expr} {lo hi : Option Expr} {pos p2 : Pos} {da : Dte} {dl dh : Dto} (ha : DE A X a da) (hl : DO A X lo dl) (hh : DO A X hi dh) (hk : X.K = A.K := by rfl) : DE A X (.Subscript a (.Slice lo hi none p2) pos) (dSl da dl dh) :=
  ⟨peImp (pe_slice (SlR.or sl_list sl_tupA) ha.pe hl.po hh.po) fun σ H R ⟨ρ, F, Q, rel, h, k⟩ => by
    refine ⟨ρ, F, _, rel, h, fun x v F1 H1 h1 g1 r1 f1 => ⟨ρ, F1, _, rel.grow g1, h1, fun l F2 H2 h2 g2 => ⟨ρ, F2, _, (rel.grow g1).grow g2, h2, fun u F3 H3 h3 g3 => ?_⟩⟩⟩
    have r3 := (r1.grow g1.ok g2).grow g2.ok g3
    have g := (g1.trans g2).trans g3
    rw [hk]
    unfold slD at h3
    split at h3
    · rename_i ds
      obtain ⟨a, vs, rfl, e1, e2, e3⟩ := rep_tup (xs := ds) rfl r3
      refine .inr ⟨a, vs, rfl, SqT.of e1, fun w => ?_, fun _ p hp => ?_⟩
      · refine k _ _ F3 H3 h3 g ?_ (fresh_no rfl)
        have c := cut_rep e3 l u
        rw [cut_whole w] at c
        exact Rp.tup e2 e1 c
      · exact k _ _ _ _ h3 (g.trans (Gr.newF g3.ok hp)) (new_tup g3.ok hp (cut_rep e3 l u)) (fresh_no rfl)
    · split at h3
      · rename_i ds e
        obtain ⟨a, vs, rfl, e1, e2, e3⟩ := rep_lst e g3.ok r3
        refine .inl ⟨a, vs, rfl, SqL.of e1, fun p hp => ?_⟩
        refine k _ _ _ _ h3 (g.trans (Gr.newO g3.ok hp)) (new_lst g3.ok hp (cut_rep e3 l u)) ?_
        exact (fresh_ref hp).back g (new_lst (H0 := A.H0) (S := A.S) g3.ok hp (cut_rep e3 l u))
      · exact h3.elim⟩
end
/-! argument lists, displays -/
section
variable {A : Anc} {X : Cx} {e : Expr} {es : List Expr} {de : Dte} {da : Dta} {pos : Pos}
def dNil : Dta := fun _ Q => Q []
def dCons (de : Dte) (da : Dta) : Dta := fun ρ Q => de ρ fun x => da ρ fun xs => Q (x :: xs)
theorem da_nil : DA A X [] dNil := ⟨paImp pa_nil fun σ H R ⟨ρ, F, Q, r, h, k⟩ => k [] [] F H h (Gr.refl r.ok) .nil⟩
theorem Reps.back {H0 : Hp} {S : Option (Addr × Addr)} {F F1 F2 : Addr → Prop} {H H1 H2 : Hp} (g : Gr S F H F1 H1) : ∀ {ds : List DV} {vs : List V}, Reps H0 S F2 H2 H1 ds vs → Reps H0 S F2 H2 H ds vs
  | _, _, .nil => .nil
  | _, _, .cons a b c => .cons a (b.back g a) (c.back g)
theorem da_cons (h : DE A X e de) (hr : DA A X es da) (hs : starEach (e :: es) X.env = (false, eval e X.env) :: starEach es X.env := by rfl) : DA A X (e :: es) (dCons de da) :=
  ⟨paImp (pa_cons h.pe hr.pa hs) fun σ H R ⟨ρ, F, Q, rel, h, k⟩ => ⟨ρ, F, _, rel, h, fun x v F1 H1 h1 g1 r1 f1 => ⟨ρ, F1, _, rel.grow g1, h1, fun xs vs F2 H2 h2 g2 r2 =>
    k (x :: xs) (v :: vs) F2 H2 h2 (g1.trans g2) (.cons (r1.grow g1.ok g2) f1 (r2.back g1))⟩⟩⟩
/-- *e -/
def dStar (de : Dte) (da : Dta) : Dta := fun ρ Q => de ρ fun x => match x.seq with
  | some ds => da ρ fun xs => Q (ds.map DV.d ++ xs)
  | none => False
theorem reps_d {H0 : Hp} {S : Option (Addr × Addr)} {F : Addr → Prop} {H Hs : Hp} : ∀ {vs : List V} {ds : List PyData}, RpA F H vs ds → Reps H0 S F H Hs (ds.map DV.d) vs
  | _, _, .nil => .nil
  | _, _, .cons a b => .cons a (fresh_no rfl) (reps_d b)
theorem Reps.app {H0 : Hp} {S : Option (Addr × Addr)} {F : Addr → Prop} {H Hs : Hp} : ∀ {ds es : List DV} {vs ws : List V}, Reps H0 S F H Hs ds vs → Reps H0 S F H Hs es ws → Reps H0 S F H Hs (ds ++ es) (vs ++ ws)
  | _, _, _, _, .nil, h => h
  | _, _, _, _, .cons a b c, h => .cons a b (c.app h)
theorem da_star {p : Pos} (h : DE A X e de) (hr : DA A X es da) (hs : starEach (.Starred e p :: es) X.env = (true, eval e X.env) :: starEach es X.env := by rfl) (hk : X.K = A.K := by rfl) : DA A X (.Starred e p :: es) (dStar de da) :=
  ⟨paImp (StX.pa_star h.pe hr.pa hs) fun σ H R ⟨ρ, F, Q, rel, h, k⟩ => ⟨ρ, F, _, rel, h, fun x v F1 H1 h1 g1 r1 f1 => by
    cases e : x.seq with
    | none => rw [e] at h1; exact h1.elim
    | some ds =>
      rw [e] at h1
      obtain ⟨a, ws, rfl, h2, r2⟩ := rep_seq (K := A.K) e g1.ok r1
      rw [hk]
      refine ⟨a, ws, rfl, h2.symm, ρ, F1, _, rel.grow g1, h1, fun xs vs F2 H2 h3 g2 r3 => ?_⟩
      exact k _ _ F2 H2 h3 (g1.trans g2) ((reps_d (r2.stg (g2.stg g1.ok))).app (r3.back g1))⟩⟩
def stoAll : List DV → Option (List PyData)
  | [] => some []
  | x :: xs => match x.sto, stoAll xs with
    | some y, some ys => some (y :: ys)
    | _, _ => none
theorem stored {S : Option (Addr × Addr)} {F F1 : Addr → Prop} {H H1 H0 : Hp} (g : Gr S F H F1 H1) (ws : List V) : ∀ {ds : List DV} {vs : List V} {zs : List PyData}, Reps H0 S F1 H1 H ds vs → stoAll ds = some zs → (∀ v ∈ vs, v ∈ ws) → RpA (frzF S F1 H H1 ws) H1 vs zs
  | _, _, _, .nil, h, _ => by cases h; exact .nil
  | _, _, _, .cons (dv := x) (v := v) (ds := ds) a b c, h, hw => by
    unfold stoAll at h
    split at h
    · rename_i y ys e1 e2
      cases h
      refine .cons ?_ (stored g ws c e2 fun v hv => hw v (by simp [hv]))
      cases x with
      | d z => cases e1; exact Rp.mono (fun a h => .inl h) (fun _ _ _ h => h) a
      | l w z =>
        cases w with
        | mine =>
          cases e1
          obtain ⟨p, vs, rfl, h1, h2, h3, h4⟩ := a
          exact .lst (.inr ⟨hw _ (by simp), b rfl p rfl, ⟨_, h1⟩, h2⟩) h1 (h3.mono (fun a h => .inl h) fun _ _ _ h => h)
        | _ => cases e1
      | _ => cases e1
    · cases h
/-- written out and short: nothing is asked -/
def small {α : Type} : Nat → List α → Bool
  | _, [] => true
  | 0, _ :: _ => false
  | n + 1, _ :: r => small n r
theorem small_le {α : Type} : ∀ (n : Nat) (xs : List α), small n xs = true → xs.length ≤ n
  | _, [], _ => Nat.zero_le _
  | n + 1, _ :: r, h => Nat.succ_le_succ (small_le n r h)
def szB (b : Bool) (n : Prop) (P : Prop) : Prop := Bool.rec (n ∧ P) P b
def szD {α : Type} (zs : List α) (P : Prop) : Prop := szB (small 60 zs) (zs.length ≤ sizeLine) P
theorem szI {α : Type} {zs : List α} {P : Prop} (h : zs.length ≤ sizeLine) (p : P) : @Bool.rec (fun _ => Prop) (zs.length ≤ sizeLine ∧ P) P (small 60 zs) := by
  cases small 60 zs with
  | true => exact p
  | false => exact ⟨h, p⟩
theorem szO {α : Type} {zs : List α} {P : Prop} (h : szD zs P) : zs.length ≤ sizeLine ∧ P := by
  unfold szD szB at h
  cases e : small 60 zs with
  | true => rw [e] at h; exact ⟨Nat.le_trans (small_le _ _ e) (by decide), h⟩
  | false => rw [e] at h; exact h
/-- an item kept -/
def stoK (y : DV) (Q : PyData → Prop) : Prop := match y.sto with
  | some z => Q z
  | none => False
theorem stoK_ok {y : DV} {Q : PyData → Prop} (h : stoK y Q) : ∃ z, y.sto = some z ∧ Q z := by
  unfold stoK at h
  split at h
  · rename_i z e; exact ⟨z, e, h⟩
  · exact h.elim
/-- one value kept -/
theorem kept1 {S : Option (Addr × Addr)} {F F1 : Addr → Prop} {H H1 H0 : Hp} {x : DV} {v : V} {z : PyData} (g : Gr S F H F1 H1) (r : Rep H0 S F1 H1 x v) (f : Fresh H x v) (e : x.sto = some z) : ∃ F2, Gr S F H F2 H1 ∧ Rp F2 H1 v z ∧ ∀ a, F1 a → F2 a := by
  refine ⟨frzF S F1 H H1 [v], g.frz [v], ?_, fun a h => .inl h⟩
  have := stored (ds := [x]) (vs := [v]) (zs := [z]) g [v] (.cons r f .nil) (by simp [stoAll, e]) (fun v h => h)
  cases this with
  | cons a _ => exact a
/-- items of a display -/
abbrev Ddi := Ds → (List PyData → Prop) → Prop
def liftD (A : Anc) (d : Ddi) : TA := fun σ H R => ∃ ρ F Q, Rel A ρ F σ H ∧ d ρ Q ∧ ∀ zs vs F' H', Q zs → Gr A.S F H F' H' → RpA F' H' vs zs → R vs H'
structure DD (A : Anc) (X : Cx) (es : List Expr) (d : Ddi) : Prop where
  pa : PA X es (liftD A d)
def dDn : Ddi := fun _ Q => Q []
def dDc (de : Dte) (dd : Ddi) : Ddi := fun ρ Q => de ρ fun x => stoK x fun z => dd ρ fun zs => Q (z :: zs)
def dDs (de : Dte) (dd : Ddi) : Ddi := fun ρ Q => de ρ fun x => match x.seq with
  | some ds => dd ρ fun zs => Q (ds ++ zs)
  | none => False
theorem dd_nil : DD A X [] dDn := ⟨paImp pa_nil fun σ H R ⟨ρ, F, Q, r, h, k⟩ => k [] [] F H h (Gr.refl r.ok) .nil⟩
theorem dd_cons {dd : Ddi} (h : DE A X e de) (hr : DD A X es dd) (hs : starEach (e :: es) X.env = (false, eval e X.env) :: starEach es X.env := by rfl) : DD A X (e :: es) (dDc de dd) :=
  ⟨paImp (pa_cons h.pe hr.pa hs) fun σ H R ⟨ρ, F, Q, rel, h, k⟩ => ⟨ρ, F, _, rel, h, fun x v F1 H1 h1 g1 r1 f1 => by
    obtain ⟨z, ez, h2⟩ := stoK_ok h1
    obtain ⟨F2, g2, rz, sub⟩ := kept1 g1 r1 f1 ez
    exact ⟨ρ, F2, _, rel.grow g2, h2, fun zs vs F3 H3 h3 g3 r3 => k (z :: zs) (v :: vs) F3 H3 h3 (g2.trans g3) (.cons (rz.stg (g3.stg g2.ok)) r3)⟩⟩⟩
theorem dd_star {dd : Ddi} {p : Pos} (h : DE A X e de) (hr : DD A X es dd) (hs : starEach (.Starred e p :: es) X.env = (true, eval e X.env) :: starEach es X.env := by rfl) (hk : X.K = A.K := by rfl) : DD A X (.Starred e p :: es) (dDs de dd) :=
  ⟨paImp (StX.pa_star h.pe hr.pa hs) fun σ H R ⟨ρ, F, Q, rel, h, k⟩ => ⟨ρ, F, _, rel, h, fun x v F1 H1 h1 g1 r1 f1 => by
    cases e : x.seq with
    | none => rw [e] at h1; exact h1.elim
    | some ds =>
      rw [e] at h1
      obtain ⟨a, ws, rfl, h2, r2⟩ := rep_seq (K := A.K) e g1.ok r1
      rw [hk]
      refine ⟨a, ws, rfl, h2.symm, ρ, F1, _, rel.grow g1, h1, fun zs vs F2 H2 h3 g2 r3 => ?_⟩
      exact k _ _ F2 H2 h3 (g1.trans g2) ((r2.stg (g2.stg g1.ok)).app r3)⟩⟩
def dTup (dd : Ddi) : Dte := fun ρ Q => dd ρ fun zs => szD zs (Q (.d (.tuple zs)))
def dLst (dd : Ddi) : Dte := fun ρ Q => dd ρ fun zs => szD zs (Q (.l .mine zs))
theorem de_tup {dd : Ddi} {x1} (h : DD A X es dd) : DE A X (.Tuple es x1 pos) (dTup dd) :=
  ⟨peImp (pe_tup h.pa) fun σ H R ⟨ρ, F, Q, rel, h, k⟩ => ⟨ρ, F, _, rel, h, fun zs vs F1 H1 h1 g1 rr => by
    have h1 := szO h1
    refine ⟨by rw [rr.len]; exact h1.1, fun p hp => ?_⟩
    exact k _ _ _ _ h1.2 (g1.trans (Gr.newF g1.ok hp)) (new_tup g1.ok hp rr) (fresh_no rfl)⟩⟩
theorem de_lst {dd : Ddi} (h : DD A X es dd) : DE A X (.List es pos) (dLst dd) :=
  ⟨peImp (pe_lst h.pa) fun σ H R ⟨ρ, F, Q, rel, h, k⟩ => ⟨ρ, F, _, rel, h, fun zs vs F1 H1 h1 g1 rr => by
    have h1 := szO h1
    refine ⟨by rw [rr.len]; exact h1.1, fun p hp => ?_⟩
    have nl := new_lst (H0 := A.H0) (S := A.S) g1.ok hp rr
    exact k _ _ _ _ h1.2 (g1.trans (Gr.newO g1.ok hp)) nl ((fresh_ref hp).back g1 nl)⟩⟩
end
end Dl
namespace Dl
open PySem L2 Gk
/-! statements -/
structure Dn where
  nx : Ds → Prop
  rt : DV → Prop
  bk : Ds → Prop := fun _ => False
  ct : Ds → Prop := fun _ => False
abbrev Dts := Dn → Ds → Prop
/-- a value that may be handed back -/
def DV.ret : DV → Bool
  | .d _ => true
  | .src => false
  | x => x.isMine
/-- what is wanted behind, as data and in the heap -/
structure Conn (A : Anc) (F : Addr → Prop) (H : Hp) (D : Ends) (E : Dn) : Prop where
  nx : ∀ ρ F' σ H', E.nx ρ → Rel A ρ F' σ H' → Stg F H F' H' → D.nx σ H'
  bk : ∀ ρ F' σ H', E.bk ρ → Rel A ρ F' σ H' → Stg F H F' H' → D.bk σ H'
  ct : ∀ ρ F' σ H', E.ct ρ → Rel A ρ F' σ H' → Stg F H F' H' → D.ct σ H'
  rt : ∀ dv v F' H', E.rt dv → dv.ret = true → Gr A.S A.F0 A.H0 F' H' → Rep A.H0 A.S F' H' dv v → Fresh A.H0 dv v → D.rt v H'
def liftS (A : Anc) (s : Dts) : TS := fun D σ H => ∃ ρ F E, Rel A ρ F σ H ∧ s E ρ ∧ Conn A F H D E
structure DS (A : Anc) (X : Cx) (e : Stmt) (s : Dts) : Prop where
  ps : PS X e (liftS A s)
structure DSs (A : Anc) (X : Cx) (e : List Stmt) (s : Dts) : Prop where
  ps : PSs X e (liftS A s)
section
variable {A : Anc} {F F' : Addr → Prop} {H H' : Hp} {D : Ends} {E : Dn} {σ : L2.St} {ρ : Ds}
theorem Conn.stg (c : Conn A F H D E) (g : Stg F H F' H') : Conn A F' H' D E :=
  ⟨fun ρ F2 σ H2 e r s => c.nx ρ F2 σ H2 e r (g.trans s), fun ρ F2 σ H2 e r s => c.bk ρ F2 σ H2 e r (g.trans s), fun ρ F2 σ H2 e r s => c.ct ρ F2 σ H2 e r (g.trans s), c.rt⟩
/-- a value goes to a slot -/
def DV.slot : DV → Option DV
  | .d x => some (.d x)
  | .l .mine x => some (.l .mine x)
  | .l .old x => some (.l .old x)
  | .dk .mine x => some (.dk .mine x)
  | .dk .old x => some (.dk .old x)
  | .dt .mine x => some (.dt .mine x)
  | .dt .old x => some (.dt .old x)
  | .src => some .src
  | _ => none
theorem slot_eq {x y : DV} (h : x.slot = some y) : y = x ∧ x.isCur = false := by
  cases x with
  | d z => cases h; exact ⟨rfl, rfl⟩
  | src => cases h; exact ⟨rfl, rfl⟩
  | l w z => cases w <;> cases h <;> exact ⟨rfl, rfl⟩
  | dk w z => cases w <;> cases h <;> exact ⟨rfl, rfl⟩
  | dt w z => cases w <;> cases h <;> exact ⟨rfl, rfl⟩
theorem Rel.wipe1 (r : Rel A ρ F σ H) (i : Nat) (x : Option V) : Rel A (st ρ i none) F (σ.set i x) H := by
  rw [st_eq]
  refine ⟨by rw [List.length_set, List.length_set]; exact r.len, fun j dv e => ?_, fun j k x y a e1 e2 m1 m2 e3 e4 => ?_, r.gr⟩
  · by_cases h : i = j
    · subst h
      by_cases hl : i < ρ.length
      · rw [List.getElem?_set_self hl] at e; cases e
      · rw [List.getElem?_eq_none (by simpa using hl)] at e; cases e
    · rw [List.getElem?_set_ne h] at e
      rw [List.getElem?_set_ne h]
      exact r.sl j dv e
  · have ne : ∀ {j x}, (ρ.set i Option.none)[j]? = some (some x) → i ≠ j := fun {j x} e h => by
      subst h
      by_cases hl : i < ρ.length
      · rw [List.getElem?_set_self hl] at e; cases e
      · rw [List.getElem?_eq_none (by simpa using hl)] at e; cases e
    have n1 := ne e1
    have n2 := ne e2
    rw [List.getElem?_set_ne n1] at e1 e3
    rw [List.getElem?_set_ne n2] at e2 e4
    exact r.un j k x y a e1 e2 m1 m2 e3 e4
/-- where a value that came after H0' has gone to a slot -/
theorem Rel.put (r : Rel A ρ F σ H) {x : DV} {v : V} (i : Nat) (hr : Rep A.H0 A.S F H x v) (hc : x.isCur = false) (hm : x.isMine = true → ∀ a, v = .ref a → A.H0 a = Option.none)
    (hn : x.isMine = true → ∀ a j y, v = .ref a → j ≠ i → ρ[j]? = some (some y) → y.isMine = true → σ[j]? ≠ some (some (.ref a))) : Rel A (st ρ i (some x)) F (σ.set i (some v)) H := by
  rw [st_eq]
  refine ⟨by rw [List.length_set, List.length_set]; exact r.len, fun j dv e => ?_, fun j k y z a e1 e2 m1 m2 e3 e4 => ?_, r.gr⟩
  · by_cases h : i = j
    · subst h
      by_cases hl : i < ρ.length
      · rw [List.getElem?_set_self hl] at e
        cases e
        rw [List.getElem?_set_self (by rw [← r.len]; exact hl)]
        exact ⟨v, rfl, hr, hc, hm⟩
      · rw [List.getElem?_eq_none (by simpa using hl)] at e; cases e
    · rw [List.getElem?_set_ne h] at e
      rw [List.getElem?_set_ne h]
      exact r.sl j dv e
  · have one : ∀ {l : List (Option DV)} {j x}, (l.set j (some x) : List (Option DV))[j]? = some (some y) → y = x := fun {l j x} e => by
      by_cases hl : j < l.length
      · rw [List.getElem?_set_self hl] at e; cases e; rfl
      · rw [List.getElem?_eq_none (by simpa using hl)] at e; cases e
    by_cases h1 : i = j
    · by_cases h2 : i = k
      · rw [← h1, ← h2]
      · subst h1
        rw [List.getElem?_set_ne h2] at e2 e4
        have hl : i < ρ.length := by
          by_cases hl : i < ρ.length
          · exact hl
          · rw [List.getElem?_eq_none (by simpa using hl)] at e1; cases e1
        rw [List.getElem?_set_self hl] at e1
        rw [List.getElem?_set_self (by rw [← r.len]; exact hl)] at e3
        cases e1
        cases e3
        exact absurd e4 (hn m1 a k z rfl (Ne.symm h2) e2 m2)
    · rw [List.getElem?_set_ne h1] at e1 e3
      by_cases h2 : i = k
      · subst h2
        have hl : i < ρ.length := by
          by_cases hl : i < ρ.length
          · exact hl
          · rw [List.getElem?_eq_none (by simpa using hl)] at e2; cases e2
        rw [List.getElem?_set_self hl] at e2
        rw [List.getElem?_set_self (by rw [← r.len]; exact hl)] at e4
        cases e2
        cases e4
        exact absurd e3 (hn m2 a j y rfl (Ne.symm h1) e1 m1)
      · rw [List.getElem?_set_ne h2] at e2 e4
        exact r.un j k y z a e1 e2 m1 m2 e3 e4
theorem mine_some {H0 : Hp} {S : Option (Addr × Addr)} {y : DV} {a : Addr} (h : Rep H0 S F H y (.ref a)) (m : y.isMine = true) : ∃ o, H a = some o ∧ ¬ bad S a ∧ ¬ F a := by
  cases y with
  | d z => cases m
  | src => cases m
  | l w z => cases w <;> cases m; obtain ⟨b, vs, e, h1, h2, _, h4⟩ := h; cases e; exact ⟨_, h1, h2, h4⟩
  | dk w z => cases w <;> cases m; obtain ⟨b, vs, e, h1, h2, _, h4⟩ := h; cases e; exact ⟨_, h1, h2, h4⟩
  | dt w z => cases w <;> cases m; obtain ⟨b, vs, e, h1, h2, _, h4⟩ := h; cases e; exact ⟨_, h1, h2, h4⟩
theorem mine_bad {H0 : Hp} {S : Option (Addr × Addr)} {y : DV} {a : Addr} (h : Rep H0 S F H y (.ref a)) (m : y.isMine = true) : ¬ bad S a := by
  obtain ⟨o, _, h, _⟩ := mine_some h m; exact h
/-- behind an expression: its value to a slot -/
theorem Rel.set (r : Rel A ρ F σ H) (g : Gr A.S F H F' H') {x : DV} {v : V} (i : Nat) (hr : Rep A.H0 A.S F' H' x v) (hf : Fresh H x v) (hc : x.isCur = false) : Rel A (st ρ i (some x)) F' (σ.set i (some v)) H' := by
  refine (r.grow g).put i hr hc (fun m a e => ?_) fun m a j y e hj e1 my e2 => ?_
  · subst e
    have h := hf m a rfl
    have nb := mine_bad hr m
    cases q : A.H0 a with
    | none => rfl
    | some o => rw [r.gr.keep a o nb q] at h; cases h
  · subst e
    obtain ⟨w, h1, h2, _⟩ := r.sl j y e1
    rw [e2] at h1
    cases h1
    obtain ⟨o, h3, _⟩ := mine_some h2 my
    rw [hf m a rfl] at h3
    cases h3
end
section
variable {A : Anc} {X : Cx} {stm : Stmt} {e : Expr} {de : Dte} {rest : List Stmt} {s t : Dts} {pos : Pos}
def dNext : Dts := fun D ρ => D.nx ρ
def dSeq (s t : Dts) : Dts := fun D ρ => s { D with nx := fun ρ' => t D ρ' } ρ
theorem dss_nil : DSs A X [] dNext := ⟨pssImp pss_nil fun D σ H ⟨ρ, F, E, r, h, c⟩ => c.nx ρ F σ H h r .refl⟩
theorem dss_cons (h1 : DS A X stm s) (h2 : DSs A X rest t) : DSs A X (stm :: rest) (dSeq s t) :=
  ⟨pssImp (pss_cons h1.ps h2.ps) fun D σ H ⟨ρ, F, E, r, h, c⟩ => ⟨ρ, F, _, r, h, fun ρ' F' σ' H' e r' g => ⟨ρ', F', E, r', e, c.stg g⟩, c.bk, c.ct, c.rt⟩⟩
theorem dss_one (h1 : DS A X stm s) : DSs A X [stm] s := ⟨pss_one h1.ps⟩
def dBrk : Dts := fun D ρ => D.bk ρ
def dCnt : Dts := fun D ρ => D.ct ρ
theorem ds_pass : DS A X (.Pass pos) dNext := ⟨psImp ps_pass fun D σ H ⟨ρ, F, E, r, h, c⟩ => c.nx ρ F σ H h r .refl⟩
theorem ds_break : DS A X (.Break pos) dBrk := ⟨psImp ps_break fun D σ H ⟨ρ, F, E, r, h, c⟩ => c.bk ρ F σ H h r .refl⟩
theorem ds_continue : DS A X (.Continue pos) dCnt := ⟨psImp ps_continue fun D σ H ⟨ρ, F, E, r, h, c⟩ => c.ct ρ F σ H h r .refl⟩
/-- a value handed back: data, or made here -/
def retD (x : DV) (Q : DV → Prop) : Prop := match x with
  | .d y => Q (.d y)
  | .l .mine y => Q (.l .mine y)
  | .dk .mine y => Q (.dk .mine y)
  | .dt .mine y => Q (.dt .mine y)
  | _ => False
theorem retD_eq {x : DV} {Q : DV → Prop} (h : retD x Q) : Q x ∧ x.ret = true := by
  unfold retD at h
  split at h <;> first | exact ⟨h, rfl⟩ | exact h.elim
def dRet (de : Dte) : Dts := fun D ρ => de ρ fun x => retD x D.rt
theorem ds_ret (h : DE A X e de) : DS A X (.Return (some e) pos) (dRet de) :=
  ⟨psImp (ps_ret h.pe) fun D σ H ⟨ρ, F, E, r, h, c⟩ => ⟨ρ, F, _, r, h, fun x v F' H' q g rr ff => c.rt x v F' H' (retD_eq q).1 (retD_eq q).2 (r.grow g).gr rr (ff.back r.gr rr)⟩⟩
def dRetN : Dts := fun D _ => D.rt (.d .none)
theorem ds_retN : DS A X (.Return none pos) dRetN := ⟨psImp ps_retN fun D σ H ⟨ρ, F, E, r, h, c⟩ => c.rt _ _ F H h rfl r.gr Rp.non (fresh_no rfl)⟩
/-- a name's own list handed back -/
def dRetV (i : Nat) : Dts := fun D ρ => match gs ρ i with
  | some x => retD x D.rt
  | none => False
theorem ds_retV {i : Nat} (h : PE X e (tVar i)) : DS A X (.Return (some e) pos) (dRetV i) :=
  ⟨psImp (ps_ret h) fun D σ H ⟨ρ, F, E, r, h, c⟩ => by
    unfold dRetV at h
    cases q : gs ρ i with
    | none => rw [q] at h; exact h.elim
    | some x =>
      rw [q] at h
      obtain ⟨v, h1, h2, h3, h4⟩ := r.sl i x (gs_some q)
      exact ⟨v, h1, c.rt x v F H (retD_eq h).1 (retD_eq h).2 r.gr h2 fun m a e => h4 m a e⟩⟩
def dSet (i : Nat) (de : Dte) : Dts := fun D ρ => de ρ fun x => match x.slot with
  | some y => D.nx (st ρ i (some y))
  | none => False
theorem set_run {i : Nat} {σ : L2.St} {H : Hp} {D : Ends} (h : liftS A (dSet i de) D σ H) : lift A de σ H fun v H1 => D.nx (σ.set i (some v)) H1 := by
  obtain ⟨ρ, F, E, r, h, c⟩ := h
  refine ⟨ρ, F, _, r, h, fun x v F' H' q g rr ff => ?_⟩
  cases e : x.slot with
  | none => rw [e] at q; exact q.elim
  | some y =>
    rw [e] at q
    obtain ⟨rfl, hc⟩ := slot_eq e
    exact c.nx _ F' _ H' q (r.set g i rr ff hc) (g.stg r.ok)
theorem ds_set {i : Nat} {x : Str} {pos' : Pos} (hN : X.N.Nodup) (hi : X.N[i]? = some x) (hx : Loc X.env.scope x) (he : DE A X e de) (hs : swapsWith e (some (.Name x pos')) pos.line X.env = pure false := by rfl) (hf : X.fn x = true ∨ X.env.scope.names.lookup x = some .local := by first | exact .inl rfl | exact .inr rfl | assumption) :
    DS A X (.Assign [.Name x pos'] e pos) (dSet i de) :=
  ⟨psImp (ps_set hN hi hx he.pe hs hf) fun D σ H h => set_run h⟩
/-- a comprehension that is stored as it comes -/
theorem ds_setR {i : Nat} (h : PS X stm (tAsg (lift A de) (gName i))) : DS A X stm (dSet i de) := ⟨psImp h fun D σ H h => set_run h⟩
def dIfS (c : Dtt) (s t : Dts) : Dts := fun D ρ => c ρ fun b => (b = true → s D ρ) ∧ (b = false → t D ρ)
theorem ds_if {c : Expr} {a b : List Stmt} {dc : Dtt} (hc : DT A X c dc) (ha : DSs A X a s) (hb : DSs A X b t) : DS A X (.If c a b pos) (dIfS dc s t) :=
  ⟨psImp (ps_if hc.pt ha.ps hb.ps) fun D σ H ⟨ρ, F, E, r, h, c⟩ => ⟨ρ, F, _, r, h, fun b F1 H1 q g => by
    cases b with
    | true => exact (if_pos rfl).mpr ⟨ρ, F1, E, r.grow g, q.1 rfl, c.stg (g.stg r.ok)⟩
    | false => exact (if_neg Bool.false_ne_true).mpr ⟨ρ, F1, E, r.grow g, q.2 rfl, c.stg (g.stg r.ok)⟩⟩⟩
def dDrop (de : Dte) : Dts := fun D ρ => de ρ fun _ => D.nx ρ
theorem ds_expr (he : DE A X e de) (hs : swapsWith e none pos.line X.env = pure false := by rfl) : DS A X (.Expr e pos) (dDrop de) :=
  ⟨psImp (ps_expr he.pe hs) fun D σ H ⟨ρ, F, E, r, h, c⟩ => ⟨ρ, F, _, r, h, fun x v F' H' q g rr ff => c.nx ρ F' σ H' q (r.grow g) (g.stg r.ok)⟩⟩
/-- while -/
def dWhile (c : Dtt) (s : Dts) : Dts := fun D ρ => ∃ W : Nat → Ds → Prop, (∃ m, W m ρ) ∧ ∀ m ρ, W m ρ →
  c ρ fun b => (b = true → ∃ N : Ds → Prop, (∀ ρ', N ρ' → ∃ m', m' < m ∧ W m' ρ') ∧ s { D with nx := N, ct := N, bk := D.nx } ρ) ∧ (b = false → D.nx ρ)
theorem ds_while {c : Expr} {body : List Stmt} {dc : Dtt} (hc : DT A X c dc) (hb : DSs A X body s) (hp : PassesOwn (model X.prog X.w) X.A X.env X.xe := by exact PassesOwn.never) : DS A X (.While c body [] pos) (dWhile dc s) :=
  ⟨psImp (ps_while hp hc.pt hb.ps) fun D σ H ⟨ρ, F, E, r, ⟨W, ⟨m0, w0⟩, tn⟩, c⟩ => by
    refine ⟨fun m σ' H' => ∃ ρ' F', Rel A ρ' F' σ' H' ∧ W m ρ' ∧ Stg F H F' H', ⟨m0, ρ, F, r, w0, .refl⟩, ?_⟩
    rintro m σ1 H1 ⟨ρ1, F1, r1, w1, s1⟩
    refine ⟨ρ1, F1, _, r1, tn m ρ1 w1, fun b F2 H2 q g => ?_⟩
    have s2 := s1.trans (g.stg r1.ok)
    cases b with
    | false => exact (if_neg Bool.false_ne_true).mpr (c.nx ρ1 F2 σ1 H2 (q.2 rfl) (r1.grow g) s2)
    | true =>
      obtain ⟨N, hN, q⟩ := q.1 rfl
      refine (if_pos rfl).mpr ⟨fun σ' H' => ∃ ρ' F', N ρ' ∧ Rel A ρ' F' σ' H' ∧ Stg F H F' H', fun σ' H' ⟨ρ', F', n, r', s'⟩ => ?_, ρ1, F2, _, r1.grow g, q, ?_⟩
      · obtain ⟨m', hm, w'⟩ := hN ρ' n
        exact ⟨m', hm, ρ', F', r', w', s'⟩
      · exact ⟨fun ρ' F' σ' H' n r' s' => ⟨ρ', F', n, r', s2.trans s'⟩, fun ρ' F' σ' H' n r' s' => c.nx ρ' F' σ' H' n r' (s2.trans s'), fun ρ' F' σ' H' n r' s' => ⟨ρ', F', n, r', s2.trans s'⟩, c.rt⟩⟩
/-- some names' own lists are data from here on -/
def DV.frz : DV → DV
  | .l .mine x => .d (.list x)
  | x => x
def frzS : List Nat → Ds → Ds
  | [], ρ => ρ
  | i :: r, ρ => frzS r (match gs ρ i with
    | some x => st ρ i (some x.frz)
    | none => ρ)
def dFrz (is : List Nat) (s : Dts) : Dts := fun D ρ => s D (frzS is ρ)
theorem rel_frz {ρ : Ds} {F : Addr → Prop} {σ : L2.St} {H : Hp} (r : Rel A ρ F σ H) (i : Nat) : ∃ F', Rel A (match gs ρ i with
    | some x => st ρ i (some x.frz)
    | none => ρ) F' σ H ∧ Stg F H F' H := by
  cases q : gs ρ i with
  | none => exact ⟨F, r, .refl⟩
  | some x =>
    have hi := gs_some q
    obtain ⟨v, h1, h2, h3, h4⟩ := r.sl i x hi
    have same : ∀ F2, Rel A ρ F2 σ H → Rep A.H0 A.S F2 H x.frz v → x.frz.isMine = false ∨ x.frz = x → Rel A (st ρ i (some x.frz)) F2 σ H := fun F2 r2 hr hh => by
      have z : σ.set i (some v) = σ := by
        refine List.ext_getElem? fun j => ?_
        by_cases hj : i = j
        · subst hj
          by_cases hl : i < σ.length
          · rw [List.getElem?_set_self hl, h1]
          · rw [List.getElem?_eq_none (by simpa using hl), List.getElem?_eq_none (by simpa using hl)]
        · rw [List.getElem?_set_ne hj]
      have c : x.frz.isCur = false := by
        cases x with
        | l w y => cases w <;> first | rfl | exact h3
        | _ => exact h3
      have p := r2.put (x := x.frz) (v := v) i hr c (fun m => ?_) fun m a j y e hj e1 my e2 => ?_
      · rw [z] at p; exact p
      · rcases hh with hh | hh
        · rw [hh] at m; cases m
        · rw [hh] at m; exact h4 m
      · rcases hh with hh | hh
        · rw [hh] at m; cases m
        · rw [hh] at m
          subst e
          exact hj (r2.un j i y x a e1 hi my m e2 h1)
    by_cases hx : ∃ y, x = .l .mine y
    · obtain ⟨y, rfl⟩ := hx
      obtain ⟨a, vs, rfl, e1, e2, e3, e4⟩ := h2
      have g0 : Gr A.S A.F0 A.H0 (fun b => F b ∨ b = a) H := ⟨r.gr.keep, fun b h => .inl (r.gr.sub b h), fun b h n => by
        rcases h with h | h
        · exact r.gr.new b h n
        · rw [h]; exact .inl (h4 rfl a rfl), ⟨fun b h => by
        rcases h with h | h
        · exact r.ok.f b h
        · rw [h]; exact ⟨_, e1⟩, fun b h => by
        rcases h with h | h
        · exact r.ok.b b h
        · rw [h]; exact e2, r.ok.s⟩⟩
      have sg : Stg F H (fun b => F b ∨ b = a) H := ⟨fun b h => .inl h, fun b o _ h => h⟩
      refine ⟨fun b => F b ∨ b = a, ?_, sg⟩
      -- the other slots
      show Rel A (st ρ i (some (DV.d (.list y)))) _ σ H
      rw [st_eq]
      refine ⟨by rw [List.length_set]; exact r.len, fun j dv e => ?_, fun j k y z b k1 k2 m1 m2 k3 k4 => ?_, g0⟩
      · by_cases hj : i = j
        · subst hj
          have hl : i < ρ.length := (List.getElem?_eq_some_iff.mp hi).1
          rw [List.getElem?_set_self hl] at e
          cases e
          exact ⟨.ref a, h1, .lst (.inr rfl) e1 (e3.stg sg), rfl, fun m => by cases m⟩
        · rw [List.getElem?_set_ne hj] at e
          obtain ⟨w, k1, k2, k3, k4⟩ := r.sl j dv e
          refine ⟨w, k1, ?_, k3, k4⟩
          have ow : ∀ {wo : Ow} {b : Addr}, w = .ref b → (wo = .mine → dv.isMine = true) → OwOk A.H0 F wo b → OwOk A.H0 (fun c => F c ∨ c = a) wo b := fun {wo b} ew hm k => by
            cases wo with
            | mine =>
              intro h
              rcases h with h | h
              · exact k h
              · subst h
                subst ew
                exact hj (r.un i j _ dv b hi e rfl (hm rfl) h1 k1)
            | old => exact k
            | cur => trivial
          cases dv with
          | d z => exact Rp.stg sg k2
          | src => exact k2
          | l wo z => obtain ⟨b, ws, e', q1, q2, q3, q4⟩ := k2; exact ⟨b, ws, e', q1, q2, q3.stg sg, ow e' (fun h => by subst h; rfl) q4⟩
          | dk wo z => obtain ⟨b, ws, e', q1, q2, q3, q4⟩ := k2; exact ⟨b, ws, e', q1, q2, q3.stg sg, ow e' (fun h => by subst h; rfl) q4⟩
          | dt wo z => obtain ⟨b, ws, e', q1, q2, q3, q4⟩ := k2; exact ⟨b, ws, e', q1, q2, q3.stg sg, ow e' (fun h => by subst h; rfl) q4⟩
      · have n1 : i ≠ j := fun h => by
          subst h
          rw [List.getElem?_set_self (List.getElem?_eq_some_iff.mp hi).1] at k1
          cases k1; cases m1
        have n2 : i ≠ k := fun h => by
          subst h
          rw [List.getElem?_set_self (List.getElem?_eq_some_iff.mp hi).1] at k2
          cases k2; cases m2
        rw [List.getElem?_set_ne n1] at k1
        rw [List.getElem?_set_ne n2] at k2
        exact r.un j k y z b k1 k2 m1 m2 k3 k4
    · have e : x.frz = x := by
        cases x with
        | l w y =>
          cases w with
          | mine => exact absurd ⟨y, rfl⟩ hx
          | _ => rfl
        | _ => rfl
      exact ⟨F, same F r (by rw [e]; exact h2) (.inr e), .refl⟩
theorem rel_frzS : ∀ (is : List Nat) {ρ : Ds} {F : Addr → Prop} {σ : L2.St} {H : Hp}, Rel A ρ F σ H → ∃ F', Rel A (frzS is ρ) F' σ H ∧ Stg F H F' H
  | [], _, F, _, _, r => ⟨F, r, .refl⟩
  | i :: is, _, _, _, _, r => by
    obtain ⟨F1, r1, s1⟩ := rel_frz r i
    obtain ⟨F2, r2, s2⟩ := rel_frzS is r1
    exact ⟨F2, r2, s1.trans s2⟩
theorem ds_frz (is : List Nat) (h : DS A X stm s) : DS A X stm (dFrz is s) := ⟨psImp h.ps fun D σ H ⟨ρ, F, E, r, h, c⟩ => by
  obtain ⟨F2, r2, s2⟩ := rel_frzS is r
  exact ⟨_, F2, E, r2, h, c.stg s2⟩⟩
end
end Dl
namespace Dl
open PySem L2 Gk PyProof.Rows
/-! targets -/
abbrev Dtg := PyData → Ds → (Ds → Prop) → Prop
abbrev Dtgs := List PyData → Ds → (Ds → Prop) → Prop
def wipeS (ρ : Ds) : List Nat → Ds
  | [] => ρ
  | v :: vs => st (wipeS ρ vs) v none
theorem rel_wipe {A : Anc} {ρ : Ds} {F : Addr → Prop} {σ : L2.St} {H : Hp} (r : Rel A ρ F σ H) : ∀ vs, Rel A (wipeS ρ vs) F (wipe σ vs) H
  | [] => r
  | v :: vs => (rel_wipe r vs).wipe1 v none
structure GL (A : Anc) (g : TG) (G : Dtg) (vs : List Nat) : Prop where
  run : ∀ (ρ : Ds) (F : Addr → Prop) (σ : L2.St) (H : Hp) (v : V) (x : PyData) (Q : Ds → Prop) (R : L2.St → Hp → Prop), Rel A ρ F σ H → Rp F H v x → G x ρ Q → (∀ ρ' σ', Q ρ' → Rel A ρ' F σ' H → wipe σ' vs = wipe σ vs → R σ' H) → g v σ H R
structure GLs (A : Anc) (g : TGs) (G : Dtgs) (vs : List Nat) : Prop where
  run : ∀ (ρ : Ds) (F : Addr → Prop) (σ : L2.St) (H : Hp) (v : List V) (x : List PyData) (Q : Ds → Prop) (R : L2.St → Hp → Prop), Rel A ρ F σ H → RpA F H v x → G x ρ Q → (∀ ρ' σ', Q ρ' → Rel A ρ' F σ' H → wipe σ' vs = wipe σ vs → R σ' H) → g v σ H R
def gN (i : Nat) : Dtg := fun x ρ Q => Q (st ρ i (some (.d x)))
def gE : Dtgs := fun xs ρ Q => match xs with
  | [] => Q ρ
  | _ => False
def gC (G : Dtg) (Gs : Dtgs) : Dtgs := fun xs ρ Q => match xs with
  | x :: r => G x ρ fun ρ' => Gs r ρ' Q
  | _ => False
def gT (Gs : Dtgs) : Dtg := fun x ρ Q => match x with
  | .tuple ds => Gs ds ρ Q
  | _ => False
theorem wipe_set {σ : L2.St} {i : Nat} {x : Option V} : ∀ {vs : List Nat}, i ∈ vs → wipe (σ.set i x) vs = wipe σ vs
  | v :: vs, h => by
    unfold wipe
    by_cases e : i ∈ vs
    · rw [wipe_set e]
    · have hv : i = v := by simpa [e] using h
      subst hv
      have : ∀ vs : List Nat, i ∉ vs → wipe (σ.set i x) vs = (wipe σ vs).set i x := fun vs => by
        induction vs with
        | nil => intro _; rfl
        | cons w ws ih =>
          intro hw
          unfold wipe
          rw [ih (fun q => hw (by simp [q])), List.set_comm _ _ (fun q => hw (by simp [q]))]
      rw [this vs e, List.set_set]
theorem gl_name {A : Anc} {i : Nat} {vs : List Nat} (hi : i ∈ vs := by decide) : GL A (gName i) (gN i) vs :=
  ⟨fun ρ F σ H v x Q R r rp q k => k _ _ q (r.set (Gr.refl r.ok) i (x := .d x) rp (fresh_no rfl) rfl) (wipe_set hi)⟩
theorem gl_nil {A : Anc} {vs : List Nat} : GLs A gNil gE vs := ⟨fun ρ F σ H v x Q R r rp q k => by
  cases rp with
  | nil => exact ⟨rfl, k ρ σ q r rfl⟩
  | cons a b => exact q.elim⟩
theorem gl_cons {A : Anc} {vs : List Nat} {g : TG} {gs : TGs} {G : Dtg} {Gs : Dtgs} (h : GL A g G vs) (h2 : GLs A gs Gs vs) : GLs A (gCons g gs) (gC G Gs) vs := ⟨fun ρ F σ H v x Q R r rp q k => by
  cases rp with
  | nil => exact q.elim
  | cons a b => exact ⟨_, _, rfl, h.run ρ F σ H _ _ _ _ r a q fun ρ' σ' q' r' w' => h2.run ρ' F σ' H _ _ _ _ r' b q' fun ρ2 σ2 q2 r2 w2 => k ρ2 σ2 q2 r2 (w2.trans w')⟩⟩
/-- the tuple's length: the targets' -/
def lenT : Dtgs → Nat → Prop := fun G n => ∀ xs ρ Q, G xs ρ Q → xs.length = n
theorem lenT_nil : lenT gE 0 := fun xs ρ Q h => by
  cases xs with
  | nil => rfl
  | cons a b => exact h.elim
/-- targets whose later ones are asked at some state -/
theorem gl_tup {A : Anc} {K : PySem.W.Frag} {vs : List Nat} {n : Nat} {gs : TGs} {Gs : Dtgs} (h : GLs A gs Gs vs) (hn : ∀ ds : List PyData, ds.length ≠ n → ∀ ρ Q, ¬ Gs ds ρ Q) : GL A (gTup K n gs) (gT Gs) vs := ⟨fun ρ F σ H v x Q R r rp q k => by
  unfold gT at q
  split at q
  · cases rp with
    | tup f e ra =>
      rename_i ds _ _
      refine ⟨_, _, rfl, SqT.of e, ?_, h.run ρ F σ H _ _ _ _ r ra q k⟩
      rw [ra.len]
      exact Classical.byContradiction fun z => hn _ z _ _ q
  · exact q.elim⟩
theorem gn1 : ∀ {i} (ds : List PyData), ds.length ≠ 1 → ∀ ρ Q, ¬ gC (gN i) gE ds ρ Q
  | _, [], _, _, _, q => q
  | _, [_], h, _, _, _ => h rfl
  | _, _ :: _ :: _, _, _, _, q => q
theorem gn2 : ∀ {i j} (ds : List PyData), ds.length ≠ 2 → ∀ ρ Q, ¬ gC (gN i) (gC (gN j) gE) ds ρ Q
  | _, _, [], _, _, _, q => q
  | _, _, [_], _, _, _, q => q
  | _, _, [_, _], h, _, _, _ => h rfl
  | _, _, _ :: _ :: _ :: _, _, _, _, q => q
theorem gn3 : ∀ {i j l} (ds : List PyData), ds.length ≠ 3 → ∀ ρ Q, ¬ gC (gN i) (gC (gN j) (gC (gN l) gE)) ds ρ Q
  | _, _, _, [], _, _, _, q => q
  | _, _, _, [_], _, _, _, q => q
  | _, _, _, [_, _], _, _, _, q => q
  | _, _, _, [_, _, _], h, _, _, _ => h rfl
  | _, _, _, _ :: _ :: _ :: _ :: _, _, _, _, q => q
theorem gn4 : ∀ {i j l m} (ds : List PyData), ds.length ≠ 4 → ∀ ρ Q, ¬ gC (gN i) (gC (gN j) (gC (gN l) (gC (gN m) gE))) ds ρ Q
  | _, _, _, _, [], _, _, _, q => q
  | _, _, _, _, [_], _, _, _, q => q
  | _, _, _, _, [_, _], _, _, _, q => q
  | _, _, _, _, [_, _, _], _, _, _, q => q
  | _, _, _, _, [_, _, _, _], h, _, _, _ => h rfl
  | _, _, _, _, _ :: _ :: _ :: _ :: _ :: _, _, _, _, q => q
/-- (a, (b, c)) -/
theorem gn22 : ∀ {i j l} (ds : List PyData), ds.length ≠ 2 → ∀ ρ Q, ¬ gC (gN i) (gC (gT (gC (gN j) (gC (gN l) gE))) gE) ds ρ Q
  | _, _, _, [], _, _, _, q => q
  | _, _, _, [_], _, _, _, q => q
  | _, _, _, [_, _], h, _, _, _ => h rfl
  | _, _, _, _ :: .tuple [_, _] :: _ :: _, _, _, _, q => q
  | _, _, _, _ :: .tuple [] :: _ :: _, _, _, _, q => q
  | _, _, _, _ :: .tuple [_] :: _ :: _, _, _, _, q => q
  | _, _, _, _ :: .tuple (_ :: _ :: _ :: _) :: _ :: _, _, _, _, q => q
  | _, _, _, _ :: .none :: _ :: _, _, _, _, q => q
  | _, _, _, _ :: .bool _ :: _ :: _, _, _, _, q => q
  | _, _, _, _ :: .int _ :: _ :: _, _, _, _, q => q
  | _, _, _, _ :: .str _ :: _ :: _, _, _, _, q => q
  | _, _, _, _ :: .list _ :: _ :: _, _, _, _, q => q
  | _, _, _, _ :: .dict _ :: _ :: _, _, _, _, q => q

/-! what is walked -/
abbrev Dti := Ds → (Bool → List PyData → Prop) → Prop
def Sta (A : Anc) (fz : Bool) (F : Addr → Prop) (H : Hp) (F2 : Addr → Prop) (H2 : Hp) : Prop := Gr A.S F H F2 H2 ∨ (fz = true ∧ Stg F H F2 H2 ∧ Gr A.S A.F0 A.H0 F2 H2)
structure Wk (A : Anc) (fz : Bool) (F : Addr → Prop) (H : Hp) (J : It) (items : List PyData) : Prop where
  go : ∀ i F2 H2, i < items.length → Sta A fz F H F2 H2 → J.go i H2
  stop : ∀ F2 H2, Sta A fz F H F2 H2 → J.stop items.length H2
  yld : ∀ i F2 H2 v H', i < items.length → Sta A fz F H F2 H2 → Ok A.S F2 H2 → J.yld i H2 v H' → ∃ F' x, items[i]? = some x ∧ Gr A.S F2 H2 F' H' ∧ Rp F' H' v x
def liftI (A : Anc) (w : Dti) : TI := fun σ H R => ∃ ρ F Q, Rel A ρ F σ H ∧ w ρ Q ∧ ∀ fz items J F' H', Q fz items → Gr A.S F H F' H' → Wk A fz F' H' J items → R J H'
structure DI (A : Anc) (X : Cx) (tg e : Expr) (w : Dti) : Prop where
  pi : PI X tg e (liftI A w)
theorem piImp {X : Cx} {tg e : Expr} {t t' : TI} (h : PI X tg e t) (w : ∀ σ H Q, t' σ H Q → t σ H Q) : PI X tg e t' := ⟨fun pins s σ H R I q => h.run pins s σ H R I (w σ H R q)⟩
/-- a list or a tuple -/
def iSeq (K : PySem.W.Frag) (tl : TE) : TI := fun σ H R => tl σ H fun x H1 => ∃ a, x = .ref a ∧ (((∃ xs, SqL K H1 a xs) ∧ R (Itl K a) H1) ∨ ((∃ xs, SqT K H1 a xs) ∧ R (Itt K a) H1))
theorem pi_seq {X : Cx} {tg l : Expr} {tl : TE} (hl : PE X l tl) : PI X tg l (iSeq X.K tl) := by
  refine ⟨fun pins s σ H R I h => ?_⟩
  refine thn (hl.run pins s σ H _ I h) fun v s1 ⟨x, H1, I1, r1, q1⟩ => ?_
  obtain ⟨a, e, q1⟩ := q1
  subst e
  cases r1
  rcases q1 with ⟨⟨xs, hq⟩, q⟩ | ⟨⟨xs, hq⟩, q⟩
  · obtain ⟨its, rv, p, hz⟩ := I1.list hq
    refine wpAny_pyIter_list p.isList ?_
    refine ⟨s1.heap.objs.size, [s1.heap.objs.size], _, _, H1, rfl, I1.kept (t' := s1.toks) fun b o e => Heap.get?_push_of_some _ e, turn_list a _, ⟨_, Heap.get?_push_size _ rfl, rfl, rfl⟩, fun b hb => ?_, q⟩
    have e : b = s1.heap.objs.size := by simpa using hb
    subst e
    exact I1.fpOk (Nat.le_refl _) (I1.hok.fresh (Nat.le_refl _))
  · obtain ⟨its, rv, p, hz⟩ := I1.tuple hq
    refine wpAny_pyIter_tuple (show s1.heap.IsTuple a its.toArray from p) ?_
    refine ⟨s1.heap.objs.size, [s1.heap.objs.size], _, _, H1, rfl, I1.kept (t' := s1.toks) fun b o e => Heap.get?_push_of_some _ e, turn_tuple a _, ⟨_, Heap.get?_push_size _ rfl, rfl, rfl⟩, fun b hb => ?_, q⟩
    have e : b = s1.heap.objs.size := by simpa using hb
    subst e
    exact I1.fpOk (Nat.le_refl _) (I1.hok.fresh (Nat.le_refl _))
/-- is it known to stay while statements run -/
def DV.fz : DV → Bool
  | .d _ => true
  | .l .old _ => true
  | _ => false
section
variable {A : Anc} {F F1 F2 F' : Addr → Prop} {H H1 H2 H' : Hp}
/-- a list or tuple of data that is walked stays so -/
theorem sta_seq {x : DV} {v : V} {ds : List PyData} (ok : Ok A.S F H) (an : Gr A.S A.F0 A.H0 F H) (e : x.seq = some ds) (r : Rep A.H0 A.S F H x v) :
    ∃ a vs, v = .ref a ∧ ((H a = some (.lst vs) ∧ ∀ F2 H2, Sta A x.fz F H F2 H2 → H2 a = some (.lst vs) ∧ RpA F2 H2 vs ds) ∨ (H a = some (.tup vs) ∧ ∀ F2 H2, Sta A x.fz F H F2 H2 → H2 a = some (.tup vs) ∧ RpA F2 H2 vs ds)) := by
  have one : ∀ {F2 H2 vs}, Sta A x.fz F H F2 H2 → RpA F H vs ds → RpA F2 H2 vs ds := fun {F2 H2 vs} s ra => by
    rcases s with g | ⟨_, s, _⟩
    · exact ra.stg (g.stg ok)
    · exact ra.stg s
  cases x with
  | d z =>
    have st : ∀ {F2 H2 a o}, Sta A (DV.d z).fz F H F2 H2 → F a → H a = some o → H2 a = some o := fun {F2 H2 a o} s f e => by
      rcases s with g | ⟨_, s, _⟩
      · exact g.keep a o (ok.b a f) e
      · exact s.keep a o f e
    cases z <;> cases e
    · have r : Rp F H v (.list ds) := r
      cases r with
      | lst f e ra => exact ⟨_, _, rfl, .inl ⟨e, fun F2 H2 s => ⟨st s f e, one s ra⟩⟩⟩
    · have r : Rp F H v (.tuple ds) := r
      cases r with
      | tup f e ra => exact ⟨_, _, rfl, .inr ⟨e, fun F2 H2 s => ⟨st s f e, one s ra⟩⟩⟩
  | l w z =>
    cases e
    obtain ⟨a, vs, e1, h1, h2, h3, h4⟩ := r
    refine ⟨a, vs, e1, .inl ⟨h1, fun F2 H2 s => ⟨?_, one s h3⟩⟩⟩
    rcases s with g | ⟨hz, s, g⟩
    · exact g.keep a _ h2 h1
    · cases w with
      | old =>
        obtain ⟨o, ho⟩ := h4
        have q := an.keep a o h2 ho
        rw [h1] at q
        rw [← q] at ho
        exact g.keep a _ h2 ho
      | mine => cases hz
      | cur => cases hz
  | _ => cases e
end
section
variable {A : Anc} {X : Cx} {tg e : Expr} {de : Dte} {pos : Pos}
def dSeqI (de : Dte) : Dti := fun ρ Q => de ρ fun x => match x.seq with
  | some ds => Q x.fz ds
  | none => False
theorem di_seq (h : DE A X e de) (hk : X.K = A.K := by rfl) : DI A X tg e (dSeqI de) :=
  ⟨piImp (pi_seq h.pe) fun σ H R ⟨ρ, F, Q, rel, h, k⟩ => ⟨ρ, F, _, rel, h, fun x v F1 H1 q g r f => by
    cases e : x.seq with
    | none => rw [e] at q; exact q.elim
    | some ds =>
      rw [e] at q
      obtain ⟨a, vs, rfl, hh⟩ := sta_seq g.ok (rel.grow g).gr e r
      rw [hk]
      refine ⟨a, rfl, ?_⟩
      rcases hh with ⟨h1, h2⟩ | ⟨h1, h2⟩
      · refine .inl ⟨⟨_, SqL.of h1⟩, k x.fz ds _ F1 H1 q g ⟨fun i F2 H2 hi s => ?_, fun F2 H2 s => ?_, fun i F2 H2 v H' hi s ok y => ?_⟩⟩
        · obtain ⟨z1, z2⟩ := h2 F2 H2 s
          have hl := z2.len
          exact ⟨vs, vs[i], SqL.of z1, by simp [show i < vs.length by omega]⟩
        · obtain ⟨z1, z2⟩ := h2 F2 H2 s
          exact ⟨vs, SqL.of z1, by rw [z2.len]; exact Nat.le_refl _⟩
        · obtain ⟨z1, z2⟩ := h2 F2 H2 s
          obtain ⟨rfl, y2⟩ := y
          obtain ⟨z, w1, w2⟩ := z2.get (y2 vs (SqL.of z1))
          exact ⟨F2, z, w1, Gr.refl ok, w2⟩
      · refine .inr ⟨⟨_, SqT.of h1⟩, k x.fz ds _ F1 H1 q g ⟨fun i F2 H2 hi s => ?_, fun F2 H2 s => ?_, fun i F2 H2 v H' hi s ok y => ?_⟩⟩
        · obtain ⟨z1, z2⟩ := h2 F2 H2 s
          have hl := z2.len
          exact ⟨vs, vs[i], SqT.of z1, by simp [show i < vs.length by omega]⟩
        · obtain ⟨z1, z2⟩ := h2 F2 H2 s
          exact ⟨vs, SqT.of z1, by rw [z2.len]; exact Nat.le_refl _⟩
        · obtain ⟨z1, z2⟩ := h2 F2 H2 s
          obtain ⟨rfl, y2⟩ := y
          obtain ⟨z, w1, w2⟩ := z2.get (y2 vs (SqT.of z1))
          exact ⟨F2, z, w1, Gr.refl ok, w2⟩⟩⟩
/-- range -/
def rgD (lo : Int) (n : Nat) : List PyData := (List.range n).map fun (i : Nat) => PyData.int (lo + (i : Int))
theorem rgD_len (lo : Int) (n : Nat) : (rgD lo n).length = n := by unfold rgD; rw [List.length_map, List.length_range]
theorem rgD_get {lo : Int} {n i : Nat} (h : i < n) : (rgD lo n)[i]? = some (.int (lo + (i : Int))) := by unfold rgD; rw [List.getElem?_map, List.getElem?_range h]; rfl
theorem wk_range {A : Anc} {F : Addr → Prop} {H : Hp} {lo : Int} {n : Nat} : Wk A true F H (Itr lo n) (rgD lo n) :=
  ⟨fun i F2 H2 hi s => by rw [rgD_len] at hi; exact hi, fun F2 H2 s => by rw [rgD_len]; exact Nat.le_refl _, fun i F2 H2 v H' hi s ok y => by
    rw [rgD_len] at hi
    obtain ⟨rfl, rfl⟩ := y
    exact ⟨F2, _, rgD_get hi, Gr.refl ok, .int _⟩⟩
def rgU1 : List DV → (Int → Prop) → Prop
  | [.d (.int j)], Q => Q j
  | _, _ => False
def rgU2 : List DV → (Int → Int → Prop) → Prop
  | [.d (.int i), .d (.int j)], Q => Q i j
  | _, _ => False
def rgU3 : List DV → (Int → Int → Int → Prop) → Prop
  | [.d (.int i), .d (.int j), .d (.int c)], Q => Q i j c
  | _, _ => False
def dRange1 (da : Dta) : Dti := fun ρ Q => da ρ fun xs => rgU1 xs fun j => (-(2 ^ 62) ≤ j ∧ j < 2 ^ 62) ∧ Q true (rgD 0 j.toNat)
def dRange2 (da : Dta) : Dti := fun ρ Q => da ρ fun xs => rgU2 xs fun i j => (-(2 ^ 62) ≤ i ∧ i < 2 ^ 62 ∧ -(2 ^ 62) ≤ j ∧ j < 2 ^ 62) ∧ Q true (rgD i (j - i).toNat)
theorem reps1 {H0 : Hp} {S : Option (Addr × Addr)} {F : Addr → Prop} {H Hs : Hp} {x : DV} {vs : List V} (h : Reps H0 S F H Hs [x] vs) : ∃ v, vs = [v] ∧ Rep H0 S F H x v := by
  cases h with
  | cons a _ c => cases c; exact ⟨_, rfl, a⟩
theorem reps2 {H0 : Hp} {S : Option (Addr × Addr)} {F : Addr → Prop} {H Hs : Hp} {x y : DV} {vs : List V} (h : Reps H0 S F H Hs [x, y] vs) : ∃ v w, vs = [v, w] ∧ Rep H0 S F H x v ∧ Rep H0 S F H y w := by
  cases h with
  | cons a _ c =>
    obtain ⟨w, rfl, r⟩ := reps1 c
    exact ⟨_, w, rfl, a, r⟩
theorem reps3 {H0 : Hp} {S : Option (Addr × Addr)} {F : Addr → Prop} {H Hs : Hp} {x y z : DV} {vs : List V} (h : Reps H0 S F H Hs [x, y, z] vs) : ∃ v w u, vs = [v, w, u] ∧ Rep H0 S F H x v ∧ Rep H0 S F H y w ∧ Rep H0 S F H z u := by
  cases h with
  | cons a _ c =>
    obtain ⟨w, u, rfl, r⟩ := reps2 c
    exact ⟨_, w, u, rfl, a, r⟩
theorem di_range1 {a : Expr} {p : Pos} {da : Dta} (hg : Gl X "range") (hm : X.mg "range" = none) (ha : DA A X [a] da) (hs : starEach [a] X.env = [(false, eval a X.env)] := by rfl) : DI A X tg (.Call (.Name "range" p) [a] [] pos) (dRange1 da) :=
  ⟨piImp (pi_range1 hg hm ha.pa hs) fun σ H R ⟨ρ, F, Q, rel, h, k⟩ => ⟨ρ, F, _, rel, h, fun xs vs F1 H1 q g r => by
    unfold rgU1 at q
    split at q
    · rename_i j
      obtain ⟨v, rfl, r1⟩ := reps1 r
      exact ⟨j, by rw [rep_int r1], q.1.1, q.1.2, k true _ _ F1 H1 q.2 g wk_range⟩
    · exact q.elim⟩⟩
theorem di_range2 {a b : Expr} {p : Pos} {da : Dta} (hg : Gl X "range") (hm : X.mg "range" = none) (ha : DA A X [a, b] da) (hs : starEach [a, b] X.env = [(false, eval a X.env), (false, eval b X.env)] := by rfl) (hs2 : starEach [b] X.env = [(false, eval b X.env)] := by rfl) : DI A X tg (.Call (.Name "range" p) [a, b] [] pos) (dRange2 da) :=
  ⟨piImp (pi_range2 hg hm ha.pa hs hs2) fun σ H R ⟨ρ, F, Q, rel, h, k⟩ => ⟨ρ, F, _, rel, h, fun xs vs F1 H1 q g r => by
    unfold rgU2 at q
    split at q
    · rename_i i j
      obtain ⟨v, w, rfl, r1, r2⟩ := reps2 r
      exact ⟨i, j, by rw [rep_int r1, rep_int r2], q.1, k true _ _ F1 H1 q.2 g wk_range⟩
    · exact q.elim⟩⟩
/-- range of three -/
def rgC (lo c : Int) (n : Nat) : List PyData := (List.range n).map fun (i : Nat) => PyData.int (lo + (i : Int) * c)
theorem rgC_len (lo c : Int) (n : Nat) : (rgC lo c n).length = n := by unfold rgC; rw [List.length_map, List.length_range]
theorem rgC_get {lo c : Int} {n i : Nat} (h : i < n) : (rgC lo c n)[i]? = some (.int (lo + (i : Int) * c)) := by unfold rgC; rw [List.getElem?_map, List.getElem?_range h]; rfl
theorem wk_rangeC {A : Anc} {F : Addr → Prop} {H : Hp} {lo c : Int} {n : Nat} : Wk A true F H (Itc lo c n) (rgC lo c n) :=
  ⟨fun i F2 H2 hi s => walk_rangeC.goes i H2 (by rw [rgC_len] at hi; exact hi) trivial, fun F2 H2 s => by rw [rgC_len]; exact walk_rangeC.stops H2 trivial, fun i F2 H2 v H' hi s ok y => by
    rw [rgC_len] at hi
    obtain ⟨rfl, rfl⟩ := walk_rangeC.yields i H2 v H' hi trivial y
    exact ⟨F2, _, rgC_get hi, Gr.refl ok, .int _⟩⟩
def dRange3 (da : Dta) : Dti := fun ρ Q => da ρ fun xs => rgU3 xs fun i j c => ∃ n, RgC i j c n ∧ Q true (rgC i c n)
theorem di_range3 {a b c : Expr} {p : Pos} {da : Dta} (hg : Gl X "range") (hm : X.mg "range" = none) (ha : DA A X [a, b, c] da)
    (h : PI X tg (.Call (.Name "range" p) [a, b, c] [] pos) (fun σ H R => liftA A da σ H fun vs H1 => ∃ (i j k : Int) (n : Nat), vs = [.int i, .int j, .int k] ∧ RgC i j k n ∧ R (Itc i k n) H1)) : DI A X tg (.Call (.Name "range" p) [a, b, c] [] pos) (dRange3 da) :=
  ⟨piImp h fun σ H R ⟨ρ, F, Q, rel, h, k⟩ => ⟨ρ, F, _, rel, h, fun xs vs F1 H1 q g r => by
    unfold rgU3 at q
    split at q
    · rename_i i j c
      obtain ⟨n, hn, q⟩ := q
      obtain ⟨v, w, u, rfl, r1, r2, r3⟩ := reps3 r
      exact ⟨i, j, c, n, by rw [rep_int r1, rep_int r2, rep_int r3], hn, k true _ _ F1 H1 q g wk_rangeC⟩
    · exact q.elim⟩⟩
/-- pairs of new tuples -/
theorem wk_pair {A : Anc} {fz : Bool} {F : Addr → Prop} {H : Hp} {J : It} {n : Nat} {items : List PyData} {fx fy : Nat → Option V} {Gd : Hp → Prop} (hn : items.length = n) (w : Walk J n Gd (YPair fx fy)) (hs : ∀ F2 H2, Sta A fz F H F2 H2 → Gd H2)
    (hy : ∀ i F2 H2 x y, i < n → Sta A fz F H F2 H2 → fx i = some x → fy i = some y → ∃ a b, items[i]? = some (.tuple [a, b]) ∧ Rp F2 H2 x a ∧ Rp F2 H2 y b) : Wk A fz F H J items :=
  ⟨fun i F2 H2 hi s => w.goes i H2 (by omega) (hs F2 H2 s), fun F2 H2 s => by rw [hn]; exact w.stops H2 (hs F2 H2 s), fun i F2 H2 v H' hi s ok y => by
    obtain ⟨T, x, z, rfl, nT, rfl, h1, h2⟩ := w.yields i H2 v H' (by omega) (hs F2 H2 s) y
    obtain ⟨a, b, e, ra, rb⟩ := hy i F2 H2 x z (by omega) s h1 h2
    exact ⟨_, _, e, Gr.newF ok nT, new_tup (H0 := A.H0) (S := A.S) ok nT (.cons ra (.cons rb .nil))⟩⟩
def enD (k : Nat) : List PyData → List PyData
  | [] => []
  | x :: r => .tuple [.int (k : Int), x] :: enD (k + 1) r
theorem enD_len : ∀ (k : Nat) (xs : List PyData), (enD k xs).length = xs.length
  | _, [] => rfl
  | k, x :: r => by rw [enD, List.length_cons, List.length_cons, enD_len]
theorem enD_get : ∀ (k : Nat) (xs : List PyData) (i : Nat) (x : PyData), xs[i]? = some x → (enD k xs)[i]? = some (.tuple [.int ((k + i : Nat) : Int), x])
  | _, [], _, _, h => by simp at h
  | k, y :: r, 0, x, h => by
    have h : y = x := by simpa using h
    subst h
    simp [enD]
  | k, y :: r, i + 1, x, h => by
    have ih := enD_get (k + 1) r i x (by simpa using h)
    rw [enD, List.getElem?_cons_succ, ih]
    have e : k + 1 + i = k + (i + 1) := by omega
    rw [e]
/-- enumerate of a list or a tuple -/
def iEnU (K : PySem.W.Frag) (ta : TA) : TI := fun σ H R => ta σ H fun vs H1 => ∃ a xs, vs = [.ref a] ∧ ((SqL K H1 a xs ∧ R (Ite K a) H1) ∨ (SqT K H1 a xs ∧ R (IteT K a) H1))
theorem pi_enU {X : Cx} {e : Expr} {ta : TA} {p pos tpos : Pos} {elts : List Expr} {kk : Nat} (hg : Gl X "enumerate") (hm : X.mg "enumerate" = none) (ha : PA X [e] ta)
    (hs : starEach [e] X.env = [(false, eval e X.env)] := by rfl) : PI X (.Tuple elts kk tpos) (.Call (.Name "enumerate" p) [e] [] pos) (iEnU X.K ta) := by
  refine ⟨fun pins s σ H R I h => ?_⟩
  refine Call_ (ld_blt I hg hm boot_enumerate (PyProof.Rows.callWith_type1 (thn (ha.run pos pins s σ H _ I h) fun us s1 ⟨vs, H1, I1, r1, q1⟩ => ?_) hs rfl))
  obtain ⟨a, xs, ex, q1⟩ := q1
  subst ex
  cases r1 with
  | cons r rr =>
    cases rr
    cases r
    rcases q1 with ⟨hq, q⟩ | ⟨hq, q⟩
    · obtain ⟨its, rv, p', hz⟩ := I1.list hq
      refine call_enumerate_list p'.isList fun h' he hit hsz hk => wpAny_pyIter_enum he ?_
      have I2 : L2.Inv X pins σ H1 { s1 with heap := h' } := I1.kept (t' := s1.toks) hk
      refine ⟨s1.heap.objs.size + 1, [s1.heap.objs.size + 1, s1.heap.objs.size], _, _, H1, rfl, I2, turn_enum a (s1.heap.objs.size + 1) s1.heap.objs.size, ⟨⟨.none, he⟩, hit, Nat.succ_ne_self _⟩, fun b hb => ?_, q⟩
      have e' : b = s1.heap.objs.size + 1 ∨ b = s1.heap.objs.size := by simpa using hb
      have hle : s1.heap.objs.size ≤ b := by
        rcases e' with z | z
        · rw [z]; exact Nat.le_add_right _ _
        · rw [z]; exact Nat.le_refl _
      exact I1.fpOk hle (I1.hok.fresh hle)
    · obtain ⟨its, rv, p', hz⟩ := I1.tuple hq
      have la : a < s1.heap.objs.size := by
        obtain ⟨o, ho, _⟩ := id p'
        exact Heap.lt_size ho
      refine tup_enum_new (begins_tuple a its.toArray) p' fun h' he hit hk => wpAny_pyIter_enum he ?_
      have I2 : L2.Inv X pins σ H1 { s1 with heap := h' } := I1.kept (t' := s1.toks) hk
      refine ⟨s1.heap.objs.size + 1, [s1.heap.objs.size + 1, s1.heap.objs.size], _, _, H1, rfl, I2,
        turn_enumT a (s1.heap.objs.size + 1) s1.heap.objs.size (Nat.ne_of_lt (Nat.lt_succ_of_lt la)) (Nat.ne_of_lt la), ⟨⟨.none, he⟩, ⟨_, hit, rfl, rfl⟩, Nat.succ_ne_self _⟩, fun b hb => ?_, q⟩
      have hle : s1.heap.objs.size ≤ b := by
        rcases List.mem_cons.mp hb with z | z
        · rw [z]; exact Nat.le_succ _
        · rw [List.mem_singleton.mp z]; exact Nat.le_refl _
      exact I1.fpOk hle (I1.hok.fresh hle)
def seq1 : List DV → (Bool → List PyData → Prop) → Prop
  | [x], Q => match x.seq with
    | some ds => Q x.fz ds
    | none => False
  | _, _ => False
def dEnum (da : Dta) : Dti := fun ρ Q => da ρ fun xs => seq1 xs fun fz ds => Q fz (enD 0 ds)
variable {elts : List Expr} {kk : Nat} {tpos : Pos}
theorem di_enum {a : Expr} {p : Pos} {da : Dta} (hg : Gl X "enumerate") (hm : X.mg "enumerate" = none) (ha : DA A X [a] da) (hs : starEach [a] X.env = [(false, eval a X.env)] := by rfl) (hk : X.K = A.K := by rfl) : DI A X (.Tuple elts kk tpos) (.Call (.Name "enumerate" p) [a] [] pos) (dEnum da) :=
  ⟨piImp (pi_enU hg hm ha.pa hs) fun σ H R ⟨ρ, F, Q, rel, h, k⟩ => ⟨ρ, F, _, rel, h, fun xs vs F1 H1 q g r => by
    unfold seq1 at q
    split at q
    · rename_i x
      obtain ⟨v, rfl, rx⟩ := reps1 r
      cases e : x.seq with
      | none => rw [e] at q; exact q.elim
      | some ds =>
        rw [e] at q
        obtain ⟨a, ws, rfl, hh⟩ := sta_seq g.ok (rel.grow g).gr e rx
        rw [hk]
        refine ⟨a, ws, rfl, ?_⟩
        rcases hh with ⟨h1, h2⟩ | ⟨h1, h2⟩
        · have hl := (h2 F1 H1 (.inl (Gr.refl g.ok))).2.len
          refine .inl ⟨SqL.of h1, k x.fz _ _ F1 H1 q g (wk_pair (by rw [enD_len]) (hl ▸ walk_enum) (fun F2 H2 s => SqL.of (h2 F2 H2 s).1) fun i F2 H2 y z hi s e1 e2 => ?_)⟩
          cases e1
          obtain ⟨w, w1, w2⟩ := (h2 F2 H2 s).2.get e2
          exact ⟨_, _, by have := enD_get 0 ds i w w1; rwa [Nat.zero_add] at this, .int _, w2⟩
        · have hl := (h2 F1 H1 (.inl (Gr.refl g.ok))).2.len
          refine .inr ⟨SqT.of h1, k x.fz _ _ F1 H1 q g (wk_pair (by rw [enD_len]) (hl ▸ walk_enumT) (fun F2 H2 s => SqT.of (h2 F2 H2 s).1) fun i F2 H2 y z hi s e1 e2 => ?_)⟩
          cases e1
          obtain ⟨w, w1, w2⟩ := (h2 F2 H2 s).2.get e2
          exact ⟨_, _, by have := enD_get 0 ds i w w1; rwa [Nat.zero_add] at this, .int _, w2⟩
    · exact q.elim⟩⟩
/-- zip of two -/
def ziD : List PyData → List PyData → List PyData
  | x :: xs, y :: ys => .tuple [x, y] :: ziD xs ys
  | _, _ => []
theorem ziD_len : ∀ (xs ys : List PyData), (ziD xs ys).length = min xs.length ys.length
  | [], _ => by simp [ziD]
  | _ :: _, [] => by simp [ziD]
  | x :: xs, y :: ys => by rw [ziD, List.length_cons, List.length_cons, List.length_cons, ziD_len]; omega
theorem ziD_get : ∀ (xs ys : List PyData) (i : Nat) (x y : PyData), xs[i]? = some x → ys[i]? = some y → (ziD xs ys)[i]? = some (.tuple [x, y])
  | [], _, _, _, _, h, _ => by simp at h
  | _ :: _, [], _, _, _, _, h => by simp at h
  | a :: xs, b :: ys, 0, x, y, h, h' => by
    have h : a = x := by simpa using h
    have h' : b = y := by simpa using h'
    subst h h'
    simp [ziD]
  | a :: xs, b :: ys, i + 1, x, y, h, h' => by
    rw [ziD, List.getElem?_cons_succ]
    exact ziD_get xs ys i x y (by simpa using h) (by simpa using h')
def seq2 : List DV → (Bool → List PyData → List PyData → Prop) → Prop
  | [x, y], Q => match x.seq, y.seq with
    | some ds, some es => Q (x.fz && y.fz) ds es
    | _, _ => False
  | _, _ => False
def dZip (da : Dta) : Dti := fun ρ Q => da ρ fun xs => seq2 xs fun fz ds es => Q fz (ziD ds es)
theorem Sta.weak {A : Anc} {b b' : Bool} {F F2 : Addr → Prop} {H H2 : Hp} (h : Sta A (b && b') F H F2 H2) : Sta A b F H F2 H2 ∧ Sta A b' F H F2 H2 := by
  rcases h with g | ⟨e, s, g⟩
  · exact ⟨.inl g, .inl g⟩
  · rw [Bool.and_eq_true] at e
    exact ⟨.inr ⟨e.1, s, g⟩, .inr ⟨e.2, s, g⟩⟩
theorem srv_of {x : DV} {v : V} {ds : List PyData} {F : Addr → Prop} {H : Hp} (ok : Ok A.S F H) (an : Gr A.S A.F0 A.H0 F H) (e : x.seq = some ds) (r : Rep A.H0 A.S F H x v) :
    ∃ S vs, SrV A.K H v S ∧ ∀ F2 H2, Sta A x.fz F H F2 H2 → S.has A.K H2 vs ∧ RpA F2 H2 vs ds := by
  obtain ⟨a, vs, rfl, hh⟩ := sta_seq ok an e r
  rcases hh with ⟨h1, h2⟩ | ⟨h1, h2⟩
  · exact ⟨.l a, vs, .l (SqL.of h1), fun F2 H2 s => ⟨SqL.of (h2 F2 H2 s).1, (h2 F2 H2 s).2⟩⟩
  · exact ⟨.t a, vs, .t (SqT.of h1), fun F2 H2 s => ⟨SqT.of (h2 F2 H2 s).1, (h2 F2 H2 s).2⟩⟩
theorem di_zip {a b : Expr} {p : Pos} {da : Dta} (hg : Gl X "zip") (hm : X.mg "zip" = none) (ha : DA A X [a, b] da) (hs : starEach [a, b] X.env = (false, eval a X.env) :: starEach [b] X.env := by rfl) (hpl : (backTo pos (starEach [b] X.env)).any (·.1) = false := by rfl) (hk : X.K = A.K := by rfl) :
    DI A X (.Tuple elts kk tpos) (.Call (.Name "zip" p) [a, b] [] pos) (dZip da) :=
  ⟨piImp (pi_zipG hg hm ha.pa hs hpl) fun σ H R ⟨ρ, F, Q, rel, h, k⟩ => ⟨ρ, F, _, rel, h, fun xs vs F1 H1 q g r => by
    unfold seq2 at q
    split at q
    · rename_i x y
      obtain ⟨v, w, rfl, r1, r2⟩ := reps2 r
      split at q
      · rename_i ds es e1 e2
        obtain ⟨S1, ws1, s1, t1⟩ := srv_of g.ok (rel.grow g).gr e1 r1
        obtain ⟨S2, ws2, s2, t2⟩ := srv_of g.ok (rel.grow g).gr e2 r2
        rw [hk]
        have l1 := (t1 F1 H1 (.inl (Gr.refl g.ok))).2.len
        have l2 := (t2 F1 H1 (.inl (Gr.refl g.ok))).2.len
        refine ⟨v, w, S1, S2, rfl, s1, s2, k (x.fz && y.fz) _ _ F1 H1 q g (wk_pair (ziD_len ds es) (walk_zipG (xs := ws1) (ys := ws2) (by rw [l1, l2])) (fun F2 H2 s => ⟨(t1 F2 H2 s.weak.1).1, (t2 F2 H2 s.weak.2).1⟩) fun i F2 H2 z u hi s k1 k2 => ?_)⟩
        obtain ⟨z1, p1, p2⟩ := (t1 F2 H2 s.weak.1).2.get k1
        obtain ⟨z2, p3, p4⟩ := (t2 F2 H2 s.weak.2).2.get k2
        exact ⟨z1, z2, ziD_get ds es i z1 z2 p1 p3, p2, p4⟩
      · exact q.elim
    · exact q.elim⟩⟩
/-- for -/
def dFor (w : Dti) (G : Dtg) (s : Dts) : Dts := fun D ρ => w ρ fun fz items => fz = true ∧ ∃ Pv : Nat → Ds → Prop, Pv 0 ρ ∧
  (∀ i x ρ', items[i]? = some x → Pv i ρ' → G x ρ' fun ρ2 => s { D with nx := Pv (i + 1), ct := Pv (i + 1), bk := D.nx } ρ2) ∧ ∀ ρ', Pv items.length ρ' → D.nx ρ'
theorem ds_for {it : Expr} {body : List Stmt} {w : Dti} {g : TG} {G : Dtg} {vs : List Nat} {s : Dts} (hi : DI A X tg it w) (hg : PG X tg g) (hl : GL A g G vs) (hb : DSs A X body s) (hc : X.calm = true := by rfl) (hp : PassesOwn (model X.prog X.w) X.A X.env X.xe := by exact PassesOwn.never)
    (hs : ∀ x, foldedSetIterable it X.env x = pure x := by intro _; rfl) : DS A X (.For tg it body [] pos) (dFor w G s) :=
  ⟨psImp (ps_for hp hc hi.pi hg hb.ps hs) fun D σ H ⟨ρ, F, E, rel, h, c⟩ => ⟨ρ, F, _, rel, h, fun fz items J F1 H1 ⟨hz, Pv, p0, pt, pe⟩ g wk => by
    subst hz
    refine ⟨fun i m σ' H' => m = items.length - i ∧ i ≤ items.length ∧ ∃ ρ' F', Pv i ρ' ∧ Rel A ρ' F' σ' H' ∧ Stg F1 H1 F' H', ⟨_, rfl, Nat.zero_le _, ρ, F1, p0, rel.grow g, .refl⟩, ?_⟩
    rintro i m σ2 H2 ⟨rfl, hi, ρ2, F2, p2, r2, s2⟩
    have sta : Sta A true F1 H1 F2 H2 := .inr ⟨rfl, s2, r2.gr⟩
    have c1 := c.stg (g.stg rel.ok)
    by_cases hlt : i < items.length
    · refine .inr ⟨wk.go i F2 H2 hlt sta, fun σ' H' => ∃ ρ' F', Pv (i + 1) ρ' ∧ Rel A ρ' F' σ' H' ∧ Stg F1 H1 F' H', fun σ' H' ⟨ρ', F', p', r', s'⟩ => ⟨items.length - (i + 1), by omega, rfl, hlt, ρ', F', p', r', s'⟩, fun x H' y => ?_⟩
      obtain ⟨F', z, e, g', rz⟩ := wk.yld i F2 H2 x H' hlt sta r2.ok y
      have r' := r2.grow g'
      have s' := s2.trans (g'.stg r2.ok)
      refine hl.run ρ2 F' σ2 H' x z _ _ r' rz (pt i z ρ2 e p2) fun ρ3 σ3 q3 r3 _ => ?_
      refine ⟨ρ3, F', _, r3, q3, fun ρ4 F4 σ4 H4 p4 r4 s4 => ⟨ρ4, F4, p4, r4, s'.trans s4⟩, fun ρ4 F4 σ4 H4 p4 r4 s4 => (c1.stg s').nx ρ4 F4 σ4 H4 p4 r4 s4, fun ρ4 F4 σ4 H4 p4 r4 s4 => ⟨ρ4, F4, p4, r4, s'.trans s4⟩, c.rt⟩
    · have e : i = items.length := by omega
      subst e
      exact .inl ⟨wk.stop F2 H2 sta, c1.nx ρ2 F2 σ2 H2 (pe ρ2 p2) r2 s2⟩⟩⟩
end
end Dl
namespace Dl
open PySem L2 Gk PyProof.Rows
/-! comprehensions -/
def dLc (w : Dti) (G : Dtg) (t : Dtt) (e : Dte) (vs : List Nat) : Dte := fun ρ Q => w ρ fun _ items => items.length ≤ sizeLine ∧ ∃ Pv : Nat → List PyData → Prop, Pv 0 [] ∧
  (∀ i x acc, items[i]? = some x → Pv i acc → G x (wipeS ρ vs) fun ρ2 => t ρ2 fun b => (b = true → e ρ2 fun y => stoK y fun z => Pv (i + 1) (acc ++ [z])) ∧ (b = false → Pv (i + 1) acc)) ∧ ∀ acc, Pv items.length acc → Q (.l .mine acc)
theorem lc_run {A : Anc} {w : Dti} {g : TG} {G : Dtg} {t : Dtt} {e : Dte} {vs : List Nat} (hl : GL A g G vs) (hw : ∀ σ : L2.St, wipe (wipe σ vs) vs = wipe σ vs) (σ : L2.St) (H : Hp) (R : VK) (h : lift A (dLc w G t e vs) σ H R) :
    tLc (liftI A w) g (liftT A t) (lift A e) vs σ H R := by
  obtain ⟨ρ, F, Q, rel, h, k⟩ := h
  refine ⟨ρ, F, _, rel, h, fun fz items J F1 H1 ⟨hz, Pv, p0, pt, pe⟩ g1 wk D nD => ?_⟩
  have ok1 := g1.ok
  have r1 := rel.grow g1
  refine ⟨fun i m H2 => m = items.length - i ∧ i ≤ items.length ∧ ∃ acc F2 us, Pv i acc ∧ Gr A.S F1 H1 F2 H2 ∧ H2 D = some (.lst us) ∧ RpA F2 H2 us acc ∧ ¬ F2 D ∧ acc.length ≤ i,
    ⟨_, rfl, Nat.zero_le _, [], F1, [], p0, Gr.newO ok1 nD, upd_same, .nil, (fun f => (by obtain ⟨o, q⟩ := ok1.f D f; rw [nD] at q; cases q)), Nat.le_refl _⟩, ?_⟩
  rintro i m H2 ⟨rfl, hi, acc, F2, us, p2, g2, hD, ra, nf, hacc⟩
  have sta : Sta A fz F1 H1 F2 H2 := .inl g2
  by_cases hlt : i < items.length
  · refine .inr ⟨wk.go i F2 H2 hlt sta, fun H' => ∃ acc F2 us, Pv (i + 1) acc ∧ Gr A.S F1 H1 F2 H' ∧ H' D = some (.lst us) ∧ RpA F2 H' us acc ∧ ¬ F2 D ∧ acc.length ≤ i + 1, fun H' ⟨acc, F2, us, q⟩ => ⟨items.length - (i + 1), by omega, rfl, hlt, acc, F2, us, q⟩, fun x H' y => ?_⟩
    obtain ⟨F', z, ez, g', rz⟩ := wk.yld i F2 H2 x H' hlt sta g2.ok y
    have g3 := g2.trans g'
    refine hl.run (wipeS ρ vs) F' (wipe σ vs) H' x z _ _ (rel_wipe (r1.grow g3) vs) rz (pt i z acc ez p2) fun ρ3 σ3 q3 r3 w3 => ?_
    refine ⟨w3.trans (hw σ), ρ3, F', _, r3, q3, fun b F4 H4 q4 g4 => ?_⟩
    have g14 := g3.trans g4
    have hD' : H' D = some (.lst us) := g'.keep D _ (bad_none ok1 nD) hD
    have hD4 : H4 D = some (.lst us) := g4.keep D _ (bad_none ok1 nD) hD'
    have nf' : ¬ F' D := g'.not hD (fun xs e => nomatch e) nf
    have nf4 : ¬ F4 D := g4.not hD' (fun xs e => nomatch e) nf'
    have ra4 : RpA F4 H4 us acc := (ra.stg (g'.stg g2.ok)).stg (g4.stg g'.ok)
    cases b with
    | false => exact (if_neg Bool.false_ne_true).mpr ⟨acc, F4, us, q4.2 rfl, g14, hD4, ra4, nf4, by omega⟩
    | true =>
      refine (if_pos rfl).mpr ⟨ρ3, F4, _, r3.grow g4, q4.1 rfl, fun yv v F5 H5 q5 g5 r5 f5 => ?_⟩
      have g15 := g14.trans g5
      have hD5 : H5 D = some (.lst us) := g5.keep D _ (bad_none ok1 nD) hD4
      have nf5 : ¬ F5 D := g5.not hD4 (fun xs e => nomatch e) nf4
      have ra5 : RpA F5 H5 us acc := ra4.stg (g5.stg g4.ok)
      obtain ⟨zz, es, q5⟩ := stoK_ok q5
      · have fin : ∀ F6 : Addr → Prop, Gr A.S F1 H1 F6 H5 → ¬ F6 D → Rp F6 H5 v zz → RpA F6 H5 us acc → ∃ acc F2 us', Pv (i + 1) acc ∧ Gr A.S F1 H1 F2 (upd H5 D (.lst (us ++ [v]))) ∧ upd H5 D (.lst (us ++ [v])) D = some (.lst us') ∧ RpA F2 (upd H5 D (.lst (us ++ [v]))) us' acc ∧ ¬ F2 D ∧ acc.length ≤ i + 1 := fun F6 g6 n6 rz6 ra6 => by
          have kp : ∀ a o, F6 a → H5 a = some o → upd H5 D (.lst (us ++ [v])) a = some o := fun a o f e => by rw [upd_ne (fun q => n6 (by rw [← q]; exact f))]; exact e
          refine ⟨acc ++ [zz], F6, us ++ [v], q5, ⟨fun a o nb e => ?_, g6.sub, g6.new, ⟨fun a f => ?_, g6.ok.b, fun p c e => ?_⟩⟩, upd_same, (ra6.mono (fun _ h => h) kp).app (.one (rz6.mono (fun _ h => h) kp)), n6, by rw [List.length_append]; show acc.length + 1 ≤ _; omega⟩
          · rw [upd_ne (ne_of_none e nD)]; exact g6.keep a o nb e
          · obtain ⟨o, e⟩ := g6.ok.f a f
            exact ⟨o, kp a o f e⟩
          · obtain ⟨np, nc⟩ := (ok1.s p c e).new nD
            obtain ⟨ns, l, m, t, h1, h2⟩ := g6.ok.s p c e
            exact ⟨ns, l, m, t, by rw [upd_ne (Ne.symm np)]; exact h1, by rw [upd_ne (Ne.symm nc)]; exact h2⟩
        refine ⟨us, hD5, ?_, ?_⟩
        · have := ra5.len
          omega
        · cases yv with
          | d z0 => cases es; exact fin F5 g15 nf5 r5 ra5
          | l wo z0 =>
            cases wo with
            | mine =>
              cases es
              obtain ⟨a, ws, rfl, e1, e2, e3, e4⟩ := r5
              have hn : H4 a = none := f5 rfl a rfl
              have hD_ne : a ≠ D := fun e => by rw [e, hD4] at hn; cases hn
              have hn1 : H1 a = none := by
                cases q : H1 a with
                | none => rfl
                | some o => rw [g14.keep a o e2 q] at hn; cases hn
              refine fin _ (g15.frz [.ref a]) (fun f => ?_) (.lst (.inr ⟨by simp, hn1, ⟨_, e1⟩, e2⟩) e1 (e3.mono (fun _ h => .inl h) fun _ _ _ h => h)) (ra5.mono (fun _ h => .inl h) fun _ _ _ h => h)
              rcases f with f | ⟨f, _⟩
              · exact nf5 f
              · have : D = a := by simpa using f
                exact hD_ne this.symm
            | old => cases es
            | cur => cases es
          | _ => cases es
  · have e : i = items.length := by omega
    subst e
    have rep : Rep A.H0 A.S F2 H2 (.l .mine acc) (.ref D) := ⟨D, us, rfl, hD, bad_none ok1 nD, ra, nf⟩
    exact .inl ⟨wk.stop F2 H2 sta, k _ _ F2 H2 (pe acc p2) (g1.trans g2) rep ((fresh_ref nD).back g1 rep)⟩
theorem wipe_get {σ : L2.St} {i : Nat} : ∀ {vs : List Nat}, i ∈ vs → (wipe σ vs)[i]? = some none ∨ (wipe σ vs)[i]? = none
  | v :: vs, h => by
    unfold wipe
    by_cases e : v = i
    · subst e
      by_cases hl : v < (wipe σ vs).length
      · exact .inl (List.getElem?_set_self hl)
      · exact .inr (List.getElem?_eq_none (by simpa using hl))
    · rw [List.getElem?_set_ne e]
      exact wipe_get (by simpa [Ne.symm e] using h)
theorem wipe_wipe (σ : L2.St) (vs : List Nat) : wipe (wipe σ vs) vs = wipe σ vs := by
  refine List.ext_getElem? fun i => ?_
  by_cases h : i ∈ vs
  · have l1 : (wipe (wipe σ vs) vs).length = (wipe σ vs).length := wipe_length _ _
    rcases wipe_get (σ := wipe σ vs) h with a | a <;> rcases wipe_get (σ := σ) h with b | b
    · rw [a, b]
    · have h1 := (List.getElem?_eq_some_iff.mp a).1
      have h2 := List.getElem?_eq_none_iff.mp b
      omega
    · have h1 := (List.getElem?_eq_some_iff.mp b).1
      have h2 := List.getElem?_eq_none_iff.mp a
      omega
    · rw [a, b]
  · rw [wipe_out h]
section
variable {A : Anc} {X : Cx}
structure DTs (A : Anc) (X : Cx) (ifs : List Expr) (t : Dtt) : Prop where
  pts : PTs X ifs (liftT A t)
theorem ptsImp {X : Cx} {e : List Expr} {t t' : TT} (h : PTs X e t) (w : ∀ σ H Q, t' σ H Q → t σ H Q) : PTs X e t' := ⟨fun pins s σ H Q I q => h.run pins s σ H Q I (w σ H Q q)⟩
def dYes : Dtt := fun _ Q => Q true
theorem dts_nil : DTs A X [] dYes := ⟨ptsImp pts_nil fun σ H R ⟨ρ, F, Q, r, h, k⟩ => k true F H h (Gr.refl r.ok)⟩
theorem dts_one {c : Expr} {t : Dtt} (h : DT A X c t) : DTs A X [c] t := ⟨pts_one h.pt⟩
theorem de_lc {elt tg iter : Expr} {ifs : List Expr} {scope : Scope} {own : List (Str × Nat)} {pos : Pos} {w : Dti} {g : TG} {G : Dtg} {t : Dtt} {e : Dte} (hN : X.N.Nodup) (hi : DI A X tg iter w) (ok : BlkOk X.N X.env.scope scope own) (hl : GL A g G (own.map (·.2)))
    (hg : ∀ (s : Shared) (H : Hp) (C : Addr) (cl : List (Str × Addr)) (fp : List Addr), PG (X.blk s H scope (compEnvC scope cl C X.env) fp) tg g) (ht : ∀ (s : Shared) (H : Hp) (C : Addr) (cl : List (Str × Addr)) (fp : List Addr), DTs A (X.blk s H scope (compEnvC scope cl C X.env) fp) ifs t)
    (he : ∀ (s : Shared) (H : Hp) (C : Addr) (cl : List (Str × Addr)) (fp : List Addr), DE A (X.blk s H scope (compEnvC scope cl C X.env) fp) elt e) (hc : X.calm = true := by rfl) (hs : ∀ x, foldedSetIterable iter X.env x = pure x := by intro _; rfl) :
    DE A X (.ListComp elt [⟨tg, iter, ifs, 0⟩] scope pos) (dLc w G t e (own.map (·.2))) :=
  ⟨peImp (pe_lc hc hN hi.pi ok hg (fun s H C cl fp => (ht s H C cl fp).pts) (fun s H C cl fp => (he s H C cl fp).pe) hs) fun σ H R h => lc_run hl (fun σ => wipe_wipe σ _) σ H R h⟩
theorem ds_setLc {i : Nat} {y : Str} {py : Pos} {elt tg iter : Expr} {ifs : List Expr} {scope : Scope} {own : List (Str × Nat)} {pos spos : Pos} {w : Dti} {g : TG} {G : Dtg} {t : Dtt} {e : Dte} (hN : X.N.Nodup) (hy : X.N[i]? = some y) (hyl : X.env.scope.names.lookup y = some .local)
    (hsw : swapsWith (.ListComp elt [⟨tg, iter, ifs, 0⟩] scope pos) (some (.Name y py)) spos.line X.env = pure true) (hi : DI A X tg iter w) (ok : BlkOk X.N X.env.scope scope own) (hl : GL A g G (own.map (·.2)))
    (hg : ∀ (s : Shared) (H : Hp) (C : Addr) (cl : List (Str × Addr)) (fp : List Addr), PG (X.blk s H scope (compEnvC scope cl C X.env) fp) tg g) (ht : ∀ (s : Shared) (H : Hp) (C : Addr) (cl : List (Str × Addr)) (fp : List Addr), DTs A (X.blk s H scope (compEnvC scope cl C X.env) fp) ifs t)
    (he : ∀ (s : Shared) (H : Hp) (C : Addr) (cl : List (Str × Addr)) (fp : List Addr), DE A (X.blk s H scope (compEnvC scope cl C X.env) fp) elt e) (hc : X.calm = true := by rfl) (hs : ∀ x, foldedSetIterable iter X.env x = pure x := by intro _; rfl) :
    DS A X (.Assign [.Name y py] (.ListComp elt [⟨tg, iter, ifs, 0⟩] scope pos) spos) (dSet i (dLc w G t e (own.map (·.2)))) :=
  ⟨psImp (ps_setLc hc hN hy hyl hsw hi.pi ok hg (fun s H C cl fp => (ht s H C cl fp).pts) (fun s H C cl fp => (he s H C cl fp).pe) hs) fun D σ H h => lc_run hl (fun σ => wipe_wipe σ _) σ H _ (set_run h)⟩

/-! defs: what a call says of data -/
abbrev Dsp := List DV → (DV → Prop) → Prop
/-- a list handed over is the callee's to read; m: to keep -/
def argD (m : Bool) : DV → Option DV
  | .d (.list xs) => if m then some (.d (.list xs)) else some (.l .old xs)
  | .d x => some (.d x)
  | .l w xs => if m then (if w = .mine then some (.d (.list xs)) else none) else some (.l .old xs)
  | .dk _ k => some (.dk .old k)
  | .dt _ k => some (.dt .old k)
  | .src => some .src
def argsD : List Bool → List DV → Option (List DV)
  | _, [] => some []
  | ms, x :: xs => match argD (ms.headD false) x, argsD ms.tail xs with
    | some y, some ys => some (y :: ys)
    | _, _ => none
def spL (S0 : Unit) (sp : Dsp) : Sp := fun vs H Q _ => ∃ args F S Qd, Ok S F H ∧ Reps H S F H H args vs ∧ (∀ x ∈ args, x.isMine = false ∧ x.isCur = false) ∧ sp args Qd ∧
  ∀ dv v F' H', Qd dv → dv.ret = true → Gr S F H F' H' → Rep H S F' H' dv v → Fresh H dv v → Q v H'
theorem arg_rep {S : Option (Addr × Addr)} {F F1 : Addr → Prop} {H H1 H0 : Hp} (g : Gr S F H F1 H1) {ws : List V} {m : Bool} {x y : DV} {v : V} (r : Rep H0 S F1 H1 x v) (f : Fresh H x v) (hv : v ∈ ws) (e : argD m x = some y) :
    Rep H1 S (frzF S F1 H H1 ws) H1 y v ∧ y.isMine = false ∧ y.isCur = false := by
  have up : ∀ {us : List V} {ds : List PyData}, RpA F1 H1 us ds → RpA (frzF S F1 H H1 ws) H1 us ds := fun h => h.mono (fun _ h => .inl h) fun _ _ _ h => h
  cases x with
  | d z =>
    have r1 : Rp (frzF S F1 H H1 ws) H1 v z := Rp.mono (fun _ h => .inl h) (fun _ _ _ h => h) r
    cases z with
    | list xs =>
      unfold argD at e
      cases m with
      | true => cases e; exact ⟨r1, rfl, rfl⟩
      | false =>
        cases e
        obtain ⟨a, vs, rfl, h1, h2, h3⟩ := rep_lst (x := .d (.list xs)) rfl g.ok r
        exact ⟨⟨a, vs, rfl, h1, h2, up h3, ⟨_, h1⟩⟩, rfl, rfl⟩
    | _ => cases e; exact ⟨r1, rfl, rfl⟩
  | l w xs =>
    obtain ⟨a, vs, rfl, h1, h2, h3, h4⟩ := r
    unfold argD at e
    cases m with
    | true =>
      cases w with
      | mine => cases e; exact ⟨.lst (.inr ⟨hv, f rfl a rfl, ⟨_, h1⟩, h2⟩) h1 (up h3), rfl, rfl⟩
      | old => cases e
      | cur => cases e
    | false => cases e; exact ⟨⟨a, vs, rfl, h1, h2, up h3, ⟨_, h1⟩⟩, rfl, rfl⟩
  | dk w xs =>
    obtain ⟨a, vs, rfl, h1, h2, h3, h4⟩ := r
    cases e
    exact ⟨⟨a, vs, rfl, h1, h2, ⟨h3.1, up h3.2⟩, ⟨_, h1⟩⟩, rfl, rfl⟩
  | dt w xs =>
    obtain ⟨a, vs, rfl, h1, h2, h3, h4⟩ := r
    cases e
    exact ⟨⟨a, vs, rfl, h1, h2, ⟨h3.1, up h3.2⟩, ⟨_, h1⟩⟩, rfl, rfl⟩
  | src => cases e; exact ⟨r, rfl, rfl⟩
theorem args_rep {S : Option (Addr × Addr)} {F F1 : Addr → Prop} {H H1 H0 : Hp} (g : Gr S F H F1 H1) (ws : List V) : ∀ {ms : List Bool} {xs ys : List DV} {vs : List V}, Reps H0 S F1 H1 H xs vs → (∀ v ∈ vs, v ∈ ws) → argsD ms xs = some ys → Reps H1 S (frzF S F1 H H1 ws) H1 H1 ys vs ∧ ∀ y ∈ ys, y.isMine = false ∧ y.isCur = false
  | _, _, _, _, .nil, _, e => by cases e; exact ⟨.nil, fun y h => nomatch h⟩
  | ms, _, _, _, .cons (dv := x) a b c, hv, e => by
    unfold argsD at e
    split at e
    · rename_i y zs e1 e2
      cases e
      obtain ⟨i1, i2⟩ := args_rep g ws c (fun v h => hv v (by simp [h])) e2
      obtain ⟨j1, j2⟩ := arg_rep g (ws := ws) a b (hv _ (by simp)) e1
      refine ⟨.cons j1 (fresh_no j2.1) i1, fun y h => ?_⟩
      rcases List.mem_cons.mp h with h | h
      · rw [h]; exact j2
      · exact i2 y h
    · cases e
def dCall (ms : List Bool) (sp : Dsp) (da : Dta) : Dte := fun ρ Q => da ρ fun xs => match argsD ms xs with
  | some ys => sp ys Q
  | none => False
theorem ret_rep {H1 H0 : Hp} {S : Option (Addr × Addr)} {F : Addr → Prop} {H : Hp} {dv : DV} {v : V} (r : Rep H1 S F H dv v) (h : dv.ret = true) : Rep H0 S F H dv v := by
  cases dv with
  | d z => exact r
  | src => cases h
  | l w z => cases w <;> cases h; exact r
  | dk w z => cases w <;> cases h; exact r
  | dt w z => cases w <;> cases h; exact r
section
variable {k : Nat} {f : Addr} {fd : FuncData} {ps : List Str} {sp : Dsp} {x : Str} {stm : Stmt} {p pos : Pos} {e : Expr} {es : List Expr} {da : Dta}
theorem de_call {ms : List Bool} (hgd : X.A.guards = some []) (D : Df X.K X.mg x stm ps f fd) (G : FnG X.prog X.w X.K X.mg X.base k f fd ps (spL () sp)) (hr : Room k X.A) (hg : Gl X x) (ha : DA A X (e :: es) da)
    (hdb : (x == ("__debug__" : Str)) = false := by decide) (he : starEach (e :: es) X.env = (false, eval e X.env) :: starEach es X.env := by rfl)
    (hpl : (backTo pos (starEach es X.env)).any (·.1) = false := by rfl) : DE A X (.Call (.Name x p) (e :: es) [] pos) (dCall ms sp da) :=
  ⟨peImp (pe_clG hgd D G hr hg ha.pa hdb he hpl) fun σ H R ⟨ρ, F, Q, rel, h, k⟩ => ⟨ρ, F, _, rel, h, fun xs vs F1 H1 q g r => by
    cases ea : argsD ms xs with
    | none => rw [ea] at q; exact q.elim
    | some ys =>
      rw [ea] at q
      obtain ⟨i1, i2⟩ := args_rep g vs r (fun v h => h) ea
      rw [List.append_nil]
      have g2 := g.frz vs
      exact ⟨ys, _, A.S, _, g2.ok, i1, i2, q, fun dv v F' H' qd hret g' r' f' => k dv v F' H' qd (g2.trans g') (ret_rep r' hret) (f'.back g r')⟩⟩⟩
end
def startD : List Str → List DV → Ds
  | [], _ => []
  | _ :: N, [] => none :: startD N []
  | _ :: N, x :: xs => some x :: startD N xs
theorem startD_len : ∀ (N : List Str) (xs : List DV), (startD N xs).length = N.length
  | [], _ => rfl
  | _ :: N, [] => by rw [startD, List.length_cons, List.length_cons, startD_len]
  | _ :: N, x :: xs => by rw [startD, List.length_cons, List.length_cons, startD_len]
theorem startD_get : ∀ {N : List Str} {xs : List DV} {i : Nat} {x : DV}, (startD N xs)[i]? = some (some x) → xs[i]? = some x
  | [], _, _, _, h => by simp [startD] at h
  | _ :: N, [], 0, _, h => by simp [startD] at h
  | _ :: N, [], i + 1, x, h => by
    have := startD_get (N := N) (xs := []) (i := i) (x := x) (by simpa [startD] using h)
    simp at this
  | _ :: N, y :: xs, 0, x, h => by
    have : y = x := by simpa [startD] using h
    simp [this]
  | _ :: N, y :: xs, i + 1, x, h => by
    have := startD_get (N := N) (xs := xs) (i := i) (x := x) (by simpa [startD] using h)
    simpa using this
theorem Reps.len {H0 : Hp} {S : Option (Addr × Addr)} {F : Addr → Prop} {H Hs : Hp} : ∀ {ds : List DV} {vs : List V}, Reps H0 S F H Hs ds vs → ds.length = vs.length
  | _, _, .nil => rfl
  | _, _, .cons _ _ c => by rw [List.length_cons, List.length_cons, Reps.len c]
theorem Reps.get {H0 : Hp} {S : Option (Addr × Addr)} {F : Addr → Prop} {H Hs : Hp} : ∀ {ds : List DV} {vs : List V} {i : Nat} {x : DV}, Reps H0 S F H Hs ds vs → ds[i]? = some x → ∃ v, vs[i]? = some v ∧ Rep H0 S F H x v
  | _, _, _, _, .nil, h => by simp at h
  | _, _, 0, x, .cons (dv := y) (v := v) a _ _, h => by
    have h : y = x := by simpa using h
    subst h
    exact ⟨v, by simp, a⟩
  | _, _, i + 1, x, .cons _ _ c, h => by
    obtain ⟨v, h1, h2⟩ := Reps.get (i := i) c (by simpa using h)
    exact ⟨v, by simpa using h1, h2⟩
theorem dfn {P : Program} {w : World} {K : PySem.W.Frag} {mg : Str → Option Value} {base : Heap} {x qual : Str} {stm : Stmt} {f : Addr} {fd : FuncData} {N ps : List Str} {k : Nat} {sp : Dsp} (F : Fun K x qual stm f fd) (S : FnScope N ps (defScope stm))
    (len : ∀ args Q, sp args Q → args.length = ps.length)
    (hbody : ∀ (cdv : Value) (A : Around) (outer : List Env) (s : Shared) (H : Hp) (E : XK) (F0 : Addr → Prop) (S0 : Option (Addr × Addr)),
      (A.deeper (envOfC qual (defScope stm) s.heap.objs.size f cdv)).guards = some [] → Room k (A.deeper (envOfC qual (defScope stm) s.heap.objs.size f cdv)) →
      ∃ t, DSs ⟨K, H, F0, S0⟩ (cxOf CX0 P w K mg base N qual (defScope stm) f cdv A outer s H E).nox (defBody stm) t ∧ ∀ args Q, sp args Q → t { nx := fun _ => Q (.d .none), rt := Q } (startD N args)) :
    FnG P w K mg base (k + 1) f fd ps (spL () sp) := by
  refine fnG_of F S (fun vs H Q E ⟨args, F0, S0, Qd, _, r, _, h, _⟩ => by rw [← r.len]; exact len _ _ h) fun cdv A outer s H vs Q E hg hr ⟨args, F0, S0, Qd, ok, r, nm, h, k⟩ => ?_
  obtain ⟨t, ht, hq⟩ := hbody cdv A outer s H E F0 S0 hg hr
  refine ⟨_, ht.ps, startD N args, F0, _, ⟨?_, fun i dv e => ?_, fun i j a b c e1 e2 m1 m2 e3 e4 => ?_, Gr.refl ok⟩, hq args Qd h, ?_⟩
  · rw [startD_len]
    unfold L2.start
    have hl : args.length ≤ N.length := by
      have := congrArg List.length S.pre
      rw [List.length_take] at this
      rw [len _ _ h]
      omega
    rw [List.length_append, List.length_map, List.length_replicate, ← r.len]
    omega
  · have e' := startD_get e
    obtain ⟨v, h1, h2⟩ := r.get e'
    have nn := nm dv (List.mem_of_getElem? e')
    refine ⟨v, ?_, h2, nn.2, fun m => by rw [nn.1] at m; cases m⟩
    unfold L2.start
    rw [List.getElem?_append_left (by rw [List.length_map]; exact (List.getElem?_eq_some_iff.mp h1).1), List.getElem?_map, h1]
    rfl
  · have nn := nm a (List.mem_of_getElem? (startD_get e1))
    rw [nn.1] at m1
    cases m1
  · exact ⟨fun ρ F' σ H' q r _ => k _ _ F' H' q rfl r.gr Rp.non (fresh_no rfl), fun ρ F' σ H' q _ _ => q.elim, fun ρ F' σ H' q _ _ => q.elim, fun dv v F' H' q hret g r f => k dv v F' H' q hret g r f⟩
end
end Dl
namespace Dl
open PySem L2 Gk PyProof.Rows
/-! a name's own list or dict is changed -/
section
variable {A : Anc} {ρ : Ds} {F F' : Addr → Prop} {σ : L2.St} {H H' : Hp}
/-- the object at a, known to slot i alone, is another from now on -/
theorem Rel.mut (r : Rel A ρ F σ H) {i : Nat} {x y : DV} {a : Addr} {o : HO} (hi : ρ[i]? = some (some x)) (hs : σ[i]? = some (some (.ref a))) (hx : x.isMine = true) (hy : y.isMine = true) (hr : Rep A.H0 A.S F (upd H a o) y (.ref a))
    (ho : ∀ xs, o ≠ .tup xs) : Rel A (st ρ i (some y)) F σ (upd H a o) ∧ Stg F H F (upd H a o) := by
  obtain ⟨v, h1, h2, h3, h4⟩ := r.sl i x hi
  rw [hs] at h1
  cases h1
  obtain ⟨u, e0, nb, nf⟩ := mine_some h2 hx
  have n0 : A.H0 a = none := h4 hx a rfl
  have sg : Stg F H F (upd H a o) := ⟨fun _ h => h, fun b ob f e => by rw [upd_ne (fun q => nf (by rw [← q]; exact f))]; exact e⟩
  have ok' : Ok A.S F (upd H a o) := by
    refine ⟨fun b f => ?_, r.ok.b, fun p c e => ?_⟩
    · obtain ⟨ob, q⟩ := r.ok.f b f
      exact ⟨ob, sg.keep b ob f q⟩
    · obtain ⟨ns, l, m, t, h1, h2⟩ := r.ok.s p c e
      exact ⟨ns, l, m, t, by rw [upd_ne (fun q => nb ⟨p, c, e, .inl q.symm⟩)]; exact h1, by rw [upd_ne (fun q => nb ⟨p, c, e, .inr q.symm⟩)]; exact h2⟩
  have gr' : Gr A.S A.F0 A.H0 F (upd H a o) := ⟨fun b ob nb e => by rw [upd_ne (ne_of_none e n0)]; exact r.gr.keep b ob nb e, r.gr.sub, r.gr.new, ok'⟩
  have hl : i < ρ.length := (List.getElem?_eq_some_iff.mp hi).1
  have yc : y.isCur = false := by
    cases y with
    | l w z => cases w <;> first | rfl | cases hy
    | dk w z => cases w <;> first | rfl | cases hy
    | dt w z => cases w <;> first | rfl | cases hy
    | d z => rfl
    | src => rfl
  refine ⟨?_, sg⟩
  rw [st_eq]
  refine ⟨by rw [List.length_set]; exact r.len, fun j dv e => ?_, fun j k p q b k1 k2 m1 m2 k3 k4 => ?_, gr'⟩
  · by_cases hj : i = j
    · subst hj
      rw [List.getElem?_set_self hl] at e
      cases e
      exact ⟨.ref a, hs, hr, yc, fun _ b e => by cases e; exact n0⟩
    · rw [List.getElem?_set_ne hj] at e
      obtain ⟨w, k1, k2, k3, k4⟩ := r.sl j dv e
      refine ⟨w, k1, ?_, k3, k4⟩
      -- its object is another one
      have other : ∀ {b : Addr} {wo : Ow}, w = .ref b → (wo = .mine → dv.isMine = true) → wo ≠ .cur → OwOk A.H0 F wo b → b ≠ a := fun {b wo} ew hm hc k q => by
        subst q
        cases wo with
        | mine => exact hj (r.un i j x dv b hi e hx (hm rfl) hs (by rw [k1, ew]))
        | old => obtain ⟨ob, k⟩ := k; rw [n0] at k; cases k
        | cur => exact hc rfl
      cases dv with
      | d z => exact Rp.stg sg k2
      | src => exact k2
      | l wo z =>
        obtain ⟨b, ws, e', q1, q2, q3, q4⟩ := k2
        have nb := other (wo := wo) e' (fun h => by subst h; rfl) (fun h => by subst h; cases k3) q4
        exact ⟨b, ws, e', by rw [upd_ne nb]; exact q1, q2, q3.stg sg, q4⟩
      | dk wo z =>
        obtain ⟨b, ws, e', q1, q2, q3, q4⟩ := k2
        have nb := other (wo := wo) e' (fun h => by subst h; rfl) (fun h => by subst h; cases k3) q4
        exact ⟨b, ws, e', by rw [upd_ne nb]; exact q1, q2, q3.stg sg, q4⟩
      | dt wo z =>
        obtain ⟨b, ws, e', q1, q2, q3, q4⟩ := k2
        have nb := other (wo := wo) e' (fun h => by subst h; rfl) (fun h => by subst h; cases k3) q4
        exact ⟨b, ws, e', by rw [upd_ne nb]; exact q1, q2, q3.stg sg, q4⟩
  · have at_ : ∀ {j : Nat} {p : DV}, (ρ.set i (some y))[j]? = some (some p) → p.isMine = true → ∃ p' : DV, ρ[j]? = some (some p') ∧ p'.isMine = true := fun {j p} e m => by
      by_cases hj : i = j
      · subst hj; exact ⟨x, hi, hx⟩
      · rw [List.getElem?_set_ne hj] at e; exact ⟨p, e, m⟩
    obtain ⟨p', e1, m1'⟩ := at_ k1 m1
    obtain ⟨q', e2, m2'⟩ := at_ k2 m2
    exact r.un j k p' q' b e1 e2 m1' m2' k3 k4
end
section
variable {A : Anc} {X : Cx} {e : Expr} {de : Dte} {stm : Stmt} {i : Nat}
def DV.own : DV → Option (List PyData)
  | .l .mine xs => some xs
  | _ => none
theorem own_eq {x : DV} {xs : List PyData} (h : x.own = some xs) : x = .l .mine xs := by
  cases x with
  | l w z => cases w <;> cases h; rfl
  | _ => cases h
/-- xs.append(e) -/
def dApp (i : Nat) (de : Dte) : Dts := fun D ρ => match gs ρ i with
  | some (.l .mine xs) => de ρ fun y => match y.sto with
    | some z => xs.length < sizeLine ∧ D.nx (st ρ i (some (.l .mine (xs ++ [z]))))
    | none => False
  | _ => False
theorem own_slot {A : Anc} {ρ : Ds} {F : Addr → Prop} {σ : L2.St} {H : Hp} (r : Rel A ρ F σ H) {i : Nat} {xs : List PyData} (h : gs ρ i = some (.l .mine xs)) : ∃ a vs, ρ[i]? = some (some (.l .mine xs)) ∧ σ[i]? = some (some (.ref a)) ∧ H a = some (.lst vs) ∧ RpA F H vs xs ∧ ¬ bad A.S a ∧ ¬ F a := by
  have hi := gs_some h
  obtain ⟨v, h1, ⟨a, vs, rfl, h2, h3, h4, h5⟩, _⟩ := r.sl i _ hi
  exact ⟨a, vs, hi, h1, h2, h4, h3, h5⟩
theorem mine_lst {H0 : Hp} {S : Option (Addr × Addr)} {F : Addr → Prop} {H : Hp} {a : Addr} {vs : List V} {xs : List PyData} (nf : ¬ F a) (nb : ¬ bad S a) (r : RpA F H vs xs) : Rep H0 S F (upd H a (.lst vs)) (.l .mine xs) (.ref a) :=
  ⟨a, vs, rfl, upd_same, nb, r.mono (fun _ h => h) fun b o f e => by rw [upd_ne (fun q => nf (by rw [← q]; exact f))]; exact e, nf⟩
theorem ds_app (hps : PS X stm (tDrop (tBM X.K "list" rAppend (tVar i) (tCons (lift A de) tNil)))) : DS A X stm (dApp i de) :=
  ⟨psImp hps fun D σ H ⟨ρ, F, E, rel, h, c⟩ => by
    unfold dApp at h
    split at h
    · rename_i xs hg
      obtain ⟨a, vs, hi, hs, ha, ra, nb, nf⟩ := own_slot rel hg
      refine ⟨_, hs, .inl ⟨rfl, _, SqL.of ha⟩, ρ, F, _, rel, h, fun y v F1 H1 q g r f => ?_⟩
      cases e : y.sto with
      | none => rw [e] at q; exact q.elim
      | some z =>
        rw [e] at q
        obtain ⟨F2, g2, rz, sub⟩ := kept1 g r f e
        have r2 := rel.grow g2
        obtain ⟨a', vs', hi', hs', ha', ra', nb', nf'⟩ := own_slot r2 hg
        rw [hs] at hs'
        cases hs'
        have m := r2.mut (y := .l .mine (xs ++ [z])) (o := .lst (vs' ++ [v])) hi hs rfl rfl (mine_lst nf' nb' (ra'.app (.one rz))) (fun _ e => nomatch e)
        exact ⟨a, vs', v, rfl, rfl, ha', by rw [ra'.len]; exact q.1, c.nx _ F2 _ _ q.2 m.1 ((g2.stg rel.ok).trans m.2)⟩
    · exact h.elim⟩
/-- xs.extend(e) -/
def dExt (i : Nat) (de : Dte) : Dts := fun D ρ => match gs ρ i with
  | some (.l .mine xs) => de ρ fun y => match y.lst with
    | some zs => xs.length + zs.length ≤ sizeLine ∧ D.nx (st ρ i (some (.l .mine (xs ++ zs))))
    | none => False
  | _ => False
theorem ds_ext (hps : PS X stm (tDrop (tBM X.K "list" rExtend (tVar i) (tCons (lift A de) tNil)))) : DS A X stm (dExt i de) :=
  ⟨psImp hps fun D σ H ⟨ρ, F, E, rel, h, c⟩ => by
    unfold dExt at h
    split at h
    · rename_i xs hg
      obtain ⟨a, vs, hi, hs, ha, ra, nb, nf⟩ := own_slot rel hg
      refine ⟨_, hs, .inl ⟨rfl, _, SqL.of ha⟩, ρ, F, _, rel, h, fun y v F1 H1 q g r f => ?_⟩
      cases e : y.lst with
      | none => rw [e] at q; exact q.elim
      | some zs =>
        rw [e] at q
        obtain ⟨b, ws, rfl, hb, nbb, rb⟩ := rep_lst e g.ok r
        have r2 := rel.grow g
        obtain ⟨a', vs', hi', hs', ha', ra', nb', nf'⟩ := own_slot r2 hg
        rw [hs] at hs'
        cases hs'
        have m := r2.mut (y := .l .mine (xs ++ zs)) (o := .lst (vs' ++ ws)) hi hs rfl rfl (mine_lst nf' nb' (ra'.app rb)) (fun _ e => nomatch e)
        exact ⟨a, b, vs', ws, rfl, rfl, ha', hb, by rw [ra'.len, rb.len]; exact q.1, c.nx _ F1 _ _ q.2 m.1 ((g.stg rel.ok).trans m.2)⟩
    · exact h.elim⟩
/-- xs.pop() alone; x = xs.pop() -/
def dPop (i : Nat) : Dts := fun D ρ => match gs ρ i with
  | some (.l .mine xs) => xs ≠ [] ∧ D.nx (st ρ i (some (.l .mine xs.dropLast)))
  | _ => False
theorem rpa_dropLast {F : Addr → Prop} {H : Hp} {vs : List V} {ds : List PyData} (r : RpA F H vs ds) : RpA F H vs.dropLast ds.dropLast := by
  rw [List.dropLast_eq_take, List.dropLast_eq_take, r.len]
  exact r.take _
theorem ds_pop (hps : PS X stm (tDrop (tBM0 X.K "list" rPop (tVar i)))) : DS A X stm (dPop i) :=
  ⟨psImp hps fun D σ H ⟨ρ, F, E, rel, h, c⟩ => by
    unfold dPop at h
    split at h
    · rename_i xs hg
      obtain ⟨a, vs, hi, hs, ha, ra, nb, nf⟩ := own_slot rel hg
      have hl : vs.length - 1 < vs.length := by
        have := ra.len
        have : xs.length ≠ 0 := fun e => h.1 (List.eq_nil_of_length_eq_zero e)
        omega
      have m := rel.mut (y := .l .mine xs.dropLast) (o := .lst vs.dropLast) hi hs rfl rfl (mine_lst nf nb (rpa_dropLast ra)) (fun _ e => nomatch e)
      exact ⟨_, hs, .inl ⟨rfl, _, SqL.of ha⟩, a, vs, vs[vs.length - 1], rfl, rfl, ha, by simp [hl], c.nx _ F _ _ h.2 m.1 m.2⟩
    · exact h.elim⟩
def dPopTo (j i : Nat) : Dts := fun D ρ => match gs ρ i with
  | some (.l .mine xs) => i ≠ j ∧ ∃ z, xs.getLast? = some z ∧ D.nx (st (st ρ i (some (.l .mine xs.dropLast))) j (some (.d z)))
  | _ => False
theorem ds_popTo {j : Nat} (hps : PS X stm (tAsg (tBM0 X.K "list" rPop (tVar i)) (gName j))) : DS A X stm (dPopTo j i) :=
  ⟨psImp hps fun D σ H ⟨ρ, F, E, rel, h, c⟩ => by
    unfold dPopTo at h
    split at h
    · rename_i xs hg
      obtain ⟨hij, z, hz, q⟩ := h
      obtain ⟨a, vs, hi, hs, ha, ra, nb, nf⟩ := own_slot rel hg
      rw [List.getLast?_eq_getElem?] at hz
      obtain ⟨x, hx, rx⟩ := ra.get2 hz
      have m := rel.mut (y := .l .mine xs.dropLast) (o := .lst vs.dropLast) hi hs rfl rfl (mine_lst nf nb (rpa_dropLast ra)) (fun _ e => nomatch e)
      refine ⟨_, hs, .inl ⟨rfl, _, SqL.of ha⟩, a, vs, x, rfl, rfl, ha, by rw [ra.len]; exact hx, ?_⟩
      exact c.nx _ F _ _ q (m.1.set (Gr.refl m.1.ok) j (x := .d z) (rx.stg m.2) (fresh_no rfl) rfl) m.2
    · exact h.elim⟩
/-- xs[i] = e -/
def dPut (i : Nat) (dj de : Dte) : Dts := fun D ρ => match gs ρ i with
  | some (.l .mine xs) => de ρ fun y => dj ρ fun x => match y.sto, x with
    | some z, .d (.int k) => ∃ j, ixN xs.length k = some j ∧ D.nx (st ρ i (some (.l .mine (xs.set j z))))
    | _, _ => False
  | _ => False
theorem ds_put {dj : Dte} (hps : PS X stm (tAsg (lift A de) (gSub (tVar i) (lift A dj) rSetL))) : DS A X stm (dPut i dj de) :=
  ⟨psImp hps fun D σ H ⟨ρ, F, E, rel, h, c⟩ => by
    unfold dPut at h
    split at h
    · rename_i xs hg
      refine ⟨ρ, F, _, rel, h, fun y v F1 H1 q g r f => ?_⟩
      obtain ⟨a, vs, hi, hs, ha, ra, nb, nf⟩ := own_slot rel hg
      refine ⟨_, hs, ρ, F1, _, rel.grow g, q, fun x w F2 H2 q2 g2 rx fx => ?_⟩
      split at q2
      · rename_i z k ez
        obtain ⟨j, hj, q3⟩ := q2
        have gg := g.trans g2
        obtain ⟨F3, g3, rz, sub⟩ := kept1 gg (r.grow g.ok g2) f ez
        have r2 := rel.grow g3
        obtain ⟨a', vs', hi', hs', ha', ra', nb', nf'⟩ := own_slot r2 hg
        rw [hs] at hs'
        cases hs'
        have m := r2.mut (y := .l .mine (xs.set j z)) (o := .lst (vs'.set j v)) hi hs rfl rfl (mine_lst nf' nb' (ra'.set j rz)) (fun _ e => nomatch e)
        exact ⟨a, vs', k, j, rfl, rep_int rx, ha', by rw [ra'.len]; exact hj, c.nx _ F3 _ _ q3 m.1 ((g3.stg rel.ok).trans m.2)⟩
      · exact q2.elim
    · exact h.elim⟩
end
end Dl
namespace Dl
open PySem L2 Gk PyProof.Rows
/-! built-in functions and classes -/
abbrev Dcr := List DV → (DV → Prop) → Prop
structure CaL (A : Anc) (r : List V → Hp → VK → Prop) (f : Dcr) : Prop where
  run : ∀ F H Hs xs vs Q R, Gr A.S A.F0 A.H0 F H → Reps A.H0 A.S F H Hs xs vs → f xs Q → (∀ dv u F' H', Q dv → Gr A.S F H F' H' → Rep A.H0 A.S F' H' dv u → Fresh H dv u → R u H') → r vs H R
theorem crOr {X : Cx} {f : Value} {r r' : List V → Hp → VK → Prop} (h : CallR X f r) (h' : CallR X f r') : CallR X f (fun vs H Q => r vs H Q ∨ r' vs H Q) := by
  intro pins s σ H vs us Q I rv q
  rcases q with q | q
  · exact h pins s σ H vs us Q I rv q
  · exact h' pins s σ H vs us Q I rv q
def dCb (f : Dcr) (da : Dta) : Dte := fun ρ Q => da ρ fun xs => f xs Q
section
variable {A : Anc} {X : Cx} {x : Str} {id : String} {p pos : Pos} {e : Expr} {es : List Expr} {da : Dta} {r : List V → Hp → VK → Prop} {f : Dcr} {a : Expr} {t : TA}
theorem de_cr (o : CaL A r f) (h : PE X a (tCB r (liftA A da))) : DE A X a (dCb f da) :=
  ⟨peImp h fun σ H R ⟨ρ, F, Q, rel, h, k⟩ => ⟨ρ, F, _, rel, h, fun xs vs F1 H1 q g rr => o.run F1 H1 H xs vs Q R (rel.grow g).gr rr q fun dv u F' H' q g' rp ff => k dv u F' H' q (g.trans g') rp (ff.back g rp)⟩⟩
end
section
variable {A : Anc}
/-- len -/
def lenD : Dcr
  | [x], Q => match x with
    | .d (.list xs) => Q (.d (.int xs.length))
    | .d (.tuple xs) => Q (.d (.int xs.length))
    | .l _ xs => Q (.d (.int xs.length))
    | .dk _ kvs => Q (.d (.int kvs.length))
    | .dt _ kvs => Q (.d (.int kvs.length))
    | _ => False
  | _, _ => False
def rLenU (K : PySem.W.Frag) : List V → Hp → VK → Prop := fun vs H Q => (∃ p ys, vs = [.ref p] ∧ (SqL K H p ys ∨ SqT K H p ys) ∧ Q (.int ys.length) H) ∨ ((∃ a kvs, vs = [V.ref a] ∧ H a = some (.dK kvs) ∧ Q (.int kvs.length) H) ∨ rLenT vs H Q)
theorem cr_len {X : Cx} : CallR X (.builtin "len") (rLenU X.K) := crOr call_len_seq (crOr call_lenD call_len_dT)
theorem krep_len {κ : Type} {F : Addr → Prop} {H : Hp} {ks : List (κ × V)} {kvs : List (κ × PyData)} (h : KRep F H ks kvs) : ks.length = kvs.length := by
  have := congrArg List.length h.1
  simpa using this
theorem lenL : CaL A (rLenU A.K) lenD := by
  refine ⟨fun F H Hs xs vs Q R an rr h k => ?_⟩
  unfold lenD at h
  split at h
  · rename_i x
    obtain ⟨v, rfl, rx⟩ := reps1 rr
    split at h
    · rename_i xs
      obtain ⟨a, ws, rfl, h1, h2⟩ := rep_seq (K := A.K) (xs := xs) rfl an.ok rx
      exact .inl ⟨a, ws, rfl, h1, by rw [h2.len]; exact k _ _ F H h (Gr.refl an.ok) (Rp.int _) (fresh_no rfl)⟩
    · rename_i xs
      obtain ⟨a, ws, rfl, h1, h2⟩ := rep_seq (K := A.K) (xs := xs) rfl an.ok rx
      exact .inl ⟨a, ws, rfl, h1, by rw [h2.len]; exact k _ _ F H h (Gr.refl an.ok) (Rp.int _) (fresh_no rfl)⟩
    · rename_i w xs
      obtain ⟨a, ws, rfl, h1, h2⟩ := rep_seq (K := A.K) (xs := xs) rfl an.ok rx
      exact .inl ⟨a, ws, rfl, h1, by rw [h2.len]; exact k _ _ F H h (Gr.refl an.ok) (Rp.int _) (fresh_no rfl)⟩
    · obtain ⟨a, ks, rfl, h1, h2, h3, h4⟩ := rx
      exact .inr (.inl ⟨a, ks, rfl, h1, by rw [krep_len h3]; exact k _ _ F H h (Gr.refl an.ok) (Rp.int _) (fresh_no rfl)⟩)
    · obtain ⟨a, ks, rfl, h1, h2, h3, h4⟩ := rx
      exact .inr (.inr ⟨a, ks, rfl, h1, by rw [krep_len h3]; exact k _ _ F H h (Gr.refl an.ok) (Rp.int _) (fresh_no rfl)⟩)
    · exact h.elim
  · exact h.elim
/-- sum of ints, of a list or a tuple -/
def sumD : Dcr
  | [x], Q => ∃ ns : List Int, x.seq = some (ns.map PyData.int) ∧ Q (.d (.int ns.sum))
  | _, _ => False
theorem cr_sumU {X : Cx} (hc : X.calm = true) : CallR X (.builtin "sum") (fun vs H Q => rSum X.K vs H Q ∨ rSumT X.K vs H Q) := crOr (cr_sum hc) (cr_sumT hc)
theorem sumL : CaL A (fun vs H Q => rSum A.K vs H Q ∨ rSumT A.K vs H Q) sumD := by
  refine ⟨fun F H Hs xs vs Q R an rr h k => ?_⟩
  unfold sumD at h
  split at h
  · obtain ⟨v, rfl, rx⟩ := reps1 rr
    obtain ⟨ns, e, q⟩ := h
    obtain ⟨a, ws, rfl, h1, h2⟩ := rep_seq (K := A.K) e an.ok rx
    rw [h2.ints] at h1
    have q := k _ _ F H q (Gr.refl an.ok) (Rp.int _) (fresh_no rfl)
    rcases h1 with h1 | h1
    · exact .inl ⟨a, ns, rfl, h1, q⟩
    · exact .inr ⟨a, ns, rfl, h1, q⟩
  · exact h.elim
/-- all, any of a list of truth values -/
def allD : Dcr
  | [x], Q => ∃ bs : List Bool, x.lst = some (bs.map PyData.bool) ∧ Q (.d (.bool (bs.all id)))
  | _, _ => False
def anyD : Dcr
  | [x], Q => ∃ bs : List Bool, x.lst = some (bs.map PyData.bool) ∧ Q (.d (.bool (bs.any id)))
  | _, _ => False
theorem allL : CaL A (rAll A.K) allD := by
  refine ⟨fun F H Hs xs vs Q R an rr h k => ?_⟩
  unfold allD at h
  split at h
  · obtain ⟨v, rfl, rx⟩ := reps1 rr
    obtain ⟨ns, e, q⟩ := h
    obtain ⟨a, ws, rfl, h1, h2, h3⟩ := rep_lst e an.ok rx
    rw [h3.bools] at h1
    exact ⟨a, ns, rfl, SqL.of h1, k _ _ F H q (Gr.refl an.ok) (Rp.bl _) (fresh_no rfl)⟩
  · exact h.elim
theorem anyL : CaL A (rAny A.K) anyD := by
  refine ⟨fun F H Hs xs vs Q R an rr h k => ?_⟩
  unfold anyD at h
  split at h
  · obtain ⟨v, rfl, rx⟩ := reps1 rr
    obtain ⟨ns, e, q⟩ := h
    obtain ⟨a, ws, rfl, h1, h2, h3⟩ := rep_lst e an.ok rx
    rw [h3.bools] at h1
    exact ⟨a, ns, rfl, SqL.of h1, k _ _ F H q (Gr.refl an.ok) (Rp.bl _) (fresh_no rfl)⟩
  · exact h.elim
/-- max, min of a list of ints -/
def maxD : Dcr
  | [x], Q => ∃ ns : List Int, x.lst = some (ns.map PyData.int) ∧ 0 < ns.length ∧ ∀ m, m ∈ ns → (∀ y, y ∈ ns → y ≤ m) → Q (.d (.int m))
  | _, _ => False
def minD : Dcr
  | [x], Q => ∃ ns : List Int, x.lst = some (ns.map PyData.int) ∧ 0 < ns.length ∧ ∀ m, m ∈ ns → (∀ y, y ∈ ns → m ≤ y) → Q (.d (.int m))
  | _, _ => False
theorem maxL : CaL A (rMax A.K) maxD := by
  refine ⟨fun F H Hs xs vs Q R an rr h k => ?_⟩
  unfold maxD at h
  split at h
  · obtain ⟨v, rfl, rx⟩ := reps1 rr
    obtain ⟨ns, e, hl, q⟩ := h
    obtain ⟨a, ws, rfl, h1, h2, h3⟩ := rep_lst e an.ok rx
    rw [h3.ints] at h1
    exact ⟨a, ns, rfl, SqL.of h1, hl, fun m hm hy => k _ _ F H (q m hm hy) (Gr.refl an.ok) (Rp.int _) (fresh_no rfl)⟩
  · exact h.elim
theorem minL : CaL A (rMin A.K) minD := by
  refine ⟨fun F H Hs xs vs Q R an rr h k => ?_⟩
  unfold minD at h
  split at h
  · obtain ⟨v, rfl, rx⟩ := reps1 rr
    obtain ⟨ns, e, hl, q⟩ := h
    obtain ⟨a, ws, rfl, h1, h2, h3⟩ := rep_lst e an.ok rx
    rw [h3.ints] at h1
    exact ⟨a, ns, rfl, SqL.of h1, hl, fun m hm hy => k _ _ F H (q m hm hy) (Gr.refl an.ok) (Rp.int _) (fresh_no rfl)⟩
  · exact h.elim
/-- of two ints -/
def int2D (g : Int → Int → Int) : Dcr
  | [.d (.int i), .d (.int j)], Q => Q (.d (.int (g i j)))
  | _, _ => False
theorem int2L {g g' : Int → Int → Int} (hg : ∀ i j, g i j = g' i j) : CaL A (fun xs H Q => ∃ i j, xs = [.int i, .int j] ∧ Q (.int (g i j)) H) (int2D g') := by
  refine ⟨fun F H Hs xs vs Q R an rr h k => ?_⟩
  unfold int2D at h
  split at h
  · obtain ⟨v, w, rfl, rx, ry⟩ := reps2 rr
    exact ⟨_, _, by rw [rep_int rx, rep_int ry], by rw [hg]; exact k _ _ F H h (Gr.refl an.ok) (Rp.int _) (fresh_no rfl)⟩
  · exact h.elim
theorem max2L : CaL A (fun xs H Q => ∃ i j, xs = [.int i, .int j] ∧ Q (.int (if j > i then j else i)) H) (int2D max) := int2L fun i j => by split <;> omega
theorem min2L : CaL A (fun xs H Q => ∃ i j, xs = [.int i, .int j] ∧ Q (.int (if j < i then j else i)) H) (int2D min) := int2L fun i j => by split <;> omega
theorem gcdL : CaL A rGcd (int2D fun a b => ((Nat.gcd a.natAbs b.natAbs : Nat) : Int)) := int2L fun _ _ => rfl
/-- abs -/
def absD : Dcr
  | [.d (.int i)], Q => Q (.d (.int (i.natAbs : Int)))
  | _, _ => False
theorem absL : CaL A (fun xs H Q => ∃ i, xs = [.int i] ∧ Q (.int (if i < 0 then -i else i)) H) absD := by
  refine ⟨fun F H Hs xs vs Q R an rr h k => ?_⟩
  unfold absD at h
  split at h
  · rename_i i
    obtain ⟨v, rfl, rx⟩ := reps1 rr
    exact ⟨_, by rw [rep_int rx], by rw [show (if i < 0 then -i else i) = (i.natAbs : Int) by split <;> omega]; exact k _ _ F H h (Gr.refl an.ok) (Rp.int _) (fresh_no rfl)⟩
  · exact h.elim
/-- int -/
def intcD : Dcr
  | [.d (.int i)], Q => Q (.d (.int i))
  | [.d (.bool b)], Q => Q (.d (.int (if b then 1 else 0)))
  | _, _ => False
theorem intcL : CaL A (fun xs H Q => (∃ i, xs = [.int i] ∧ Q (.int i) H) ∨ ∃ k, xs = [.bl k] ∧ Q (.int (if k then 1 else 0)) H) intcD := by
  refine ⟨fun F H Hs xs vs Q R an rr h k => ?_⟩
  unfold intcD at h
  split at h
  · obtain ⟨v, rfl, rx⟩ := reps1 rr
    exact .inl ⟨_, by rw [rep_int rx], k _ _ F H h (Gr.refl an.ok) (Rp.int _) (fresh_no rfl)⟩
  · obtain ⟨v, rfl, rx⟩ := reps1 rr
    exact .inr ⟨_, by rw [rep_bl rx], k _ _ F H h (Gr.refl an.ok) (Rp.int _) (fresh_no rfl)⟩
  · exact h.elim
/-- repr -/
def reprD : Dcr
  | [x], Q => ∃ d, x.dat = some d ∧ d.showable = true ∧ d.depth ≤ 60 ∧ d.shown.length ≤ sizeLine ∧ Q (.d (.str d.shown))
  | _, _ => False
theorem reprL : CaL A (rRepr A.K) reprD := by
  refine ⟨fun F H Hs xs vs Q R an rr h k => ?_⟩
  unfold reprD at h
  split at h
  · obtain ⟨v, rfl, rx⟩ := reps1 rr
    obtain ⟨d, e, h1, h2, h3, q⟩ := h
    exact ⟨_, d, rfl, rep_dat e rx, h1, h2, h3, k _ _ F H q (Gr.refl an.ok) (Rp.str _) (fresh_no rfl)⟩
  · exact h.elim
/-- tuple, list -/
def tupD : Dcr
  | [x], Q => match x with
    | .d (.tuple ds) => Q (.d (.tuple ds))
    | x => match x.lst with
      | some ds => Q (.d (.tuple ds))
      | none => False
  | _, _ => False
theorem tupL : CaL A (rTupK A.K) tupD := by
  refine ⟨fun F H Hs xs vs Q R an rr h k => ?_⟩
  unfold tupD at h
  split at h
  · obtain ⟨v, rfl, rx⟩ := reps1 rr
    split at h
    · rename_i ds
      obtain ⟨a, vs, rfl, h1, h2, h3⟩ := rep_tup (xs := ds) rfl rx
      exact ⟨a, vs, rfl, .inr ⟨SqT.of h1, k _ _ F H h (Gr.refl an.ok) rx (fresh_no rfl)⟩⟩
    · split at h
      · rename_i ds e
        obtain ⟨a, vs, rfl, h1, h2, h3⟩ := rep_lst e an.ok rx
        exact ⟨a, vs, rfl, .inl ⟨SqL.of h1, fun p hp => k _ _ _ _ h (Gr.newF an.ok hp) (new_tup an.ok hp h3) (fresh_no rfl)⟩⟩
      · exact h.elim
  · exact h.elim
def lisD : Dcr
  | [x], Q => match x.seq with
      | some ds => Q (.l .mine ds)
      | none => False
  | _, _ => False
theorem lisL : CaL A (rLstK A.K) lisD := by
  refine ⟨fun F H Hs xs vs Q R an rr h k => ?_⟩
  unfold lisD at h
  split at h
  · obtain ⟨v, rfl, rx⟩ := reps1 rr
    split at h
    · rename_i ds e
      obtain ⟨a, vs, rfl, h1, h3⟩ := rep_seq (K := A.K) e an.ok rx
      exact ⟨a, vs, rfl, h1, fun p hp => k _ _ _ _ h (Gr.newO an.ok hp) (new_lst an.ok hp h3) (fresh_ref hp)⟩
    · exact h.elim
  · exact h.elim
/-- sorted: ints; any data -/
def sortID : Dcr
  | [x], Q => ∃ ns : List Int, x.lst = some (ns.map PyData.int) ∧ ∀ ns' : List Int, ns'.Perm ns → ns'.Pairwise (· ≤ ·) → Q (.l .mine (ns'.map PyData.int))
  | _, _ => False
theorem sortIL : CaL A (rSortedI A.K) sortID := by
  refine ⟨fun F H Hs xs vs Q R an rr h k => ?_⟩
  unfold sortID at h
  split at h
  · obtain ⟨v, rfl, rx⟩ := reps1 rr
    obtain ⟨ns, e, q⟩ := h
    obtain ⟨a, ws, rfl, h1, h2, h3⟩ := rep_lst e an.ok rx
    rw [h3.ints] at h1
    exact ⟨a, ns, rfl, SqL.of h1, fun ns' p hp hs np => k _ _ _ _ (q ns' hp hs) (Gr.newO an.ok np) (new_lst an.ok np (RpA.of_ints ns')) (fresh_ref np)⟩
  · exact h.elim
end
/-! sorted of what can be gathered: lists, tuples, dicts' keys -/
section
variable {X : Cx}
/-- the values of an iterable, as data -/
inductive Src2 (K : PySem.W.Frag) (H : Hp) : V → List (V × PyData) → Prop
  | l {a : Addr} {xs : List (V × PyData)} : SqL K H a (xs.map Prod.fst) → Src2 K H (.ref a) xs
  | t {a : Addr} {xs : List (V × PyData)} : SqT K H a (xs.map Prod.fst) → Src2 K H (.ref a) xs
  | k {a : Addr} {kvs : List (Key × V)} {xs : List (V × PyData)} : H a = some (.dK kvs) → xs.map Prod.fst = kvs.map (fun kv => kV kv.1) → Src2 K H (.ref a) xs
theorem collect_tuple {prog : Program} {w : World} {A : Around} {E : Value → Shared → Prop} {s : Shared} {l : Addr} {vs : List Value} {Q : List Value → Shared → Prop} (hl : s.heap.IsTuple l vs.toArray)
    (h : Q vs { s with heap := (s.heap.push (seqObj "list" #[] 0)).update s.heap.objs.size (Obj.mapSeq (· ++ vs.toArray)) }) (hsz : vs.length ≤ sizeLine) :
    wpAny (model prog w) A (collect (.ref l)) Q E s := by
  obtain ⟨o, ho, hc, n, hd⟩ := id hl
  unfold collect
  refine wpAny_bind (wpAny_runValue (codeAny_builtin entry_proto_collect' ?_))
  show wpAny _ _ (do again (.builtin "list.__iadd__" ⟨[← newList [], .ref l], []⟩)) _ _ s
  refine wpAny_bind (wpAny_newList (wpAny_pure ⟨Code.quiet_builtin _ (by decide +kernel), codeAny_builtin entry_list_iadd' ?_⟩))
  show wpAny _ _ (Builtin.List.listExtendWith (.ref s.heap.objs.size) (.ref l) (.ref s.heap.objs.size)) _ _ { s with heap := s.heap.push (seqObj "list" #[] 0) }
  unfold Builtin.List.listExtendWith
  have ho' : (s.heap.push (seqObj "list" #[] 0)).get? l = some o := Heap.get?_push_of_some _ ho
  refine wpAny_bind (wpAny_typeOf (T := "tuple") ⟨o, ho', hc⟩ ?_)
  have ht : (Value.type "tuple" == Value.type "tuple") = true := by rfl
  rw [if_pos (by rw [ht]; simp)]
  refine wpAny_bind (listItems_at ho' hd ?_)
  refine wpAny_bind (listItems_at (xs := #[]) (n := 0) (Heap.get?_push_size _ rfl) rfl ?_)
  rw [if_neg (by simp)]
  refine wpAny_bind (listUpdate_at (xs := #[]) (n := 0) (Heap.get?_push_size _ rfl) rfl ?_ (Nat.zero_le _) (by show (#[] ++ vs.toArray).size ≤ sizeLine + 1; simp only [Array.size_append, List.size_toArray, List.length_nil]; omega))
  refine wpAny_pure ?_
  show wpAny (model prog w) A (do
      let o ← load s.heap.objs.size
      match o.data with
      | .seq xs _ => pure xs.toList
      | _ => unsupported "internal:collect") Q E { s with heap := (s.heap.push (seqObj "list" #[] 0)).update s.heap.objs.size (Obj.mapSeq (· ++ vs.toArray)) }
  refine wpAny_bind (wpAny_load (get?_update_seq (Heap.get?_push_size _ rfl) _) ?_)
  show wpAny _ _ (pure ((#[] : Array Value) ++ vs.toArray).toList) Q E _
  rw [show ((#[] : Array Value) ++ vs.toArray).toList = vs by simp]
  exact wpAny_pure h
end
end Dl
namespace Dl
open PySem L2 Gk PyProof.Rows
/-! sorted of lists, tuples, dicts -/
theorem sorted_coll {prog : Program} {w : World} {A : Around} {E : Value → Shared → Prop} {s : Shared} {a : Addr} {Pv : List Value → Prop} {Q : Value → Shared → Prop} (hl : ∀ vs, Pv vs → vs.length ≤ sizeLine)
    (hcoll : ∀ R : List Value → Shared → Prop, (∀ (h' : Heap) tk vs, (∀ b o, s.heap.get? b = some o → h'.get? b = some o) → Pv vs → R vs { s with heap := h', toks := tk }) → wpAny (model prog w) A.in1 (collect (.ref a)) R E s)
    (h : ∀ (h' : Heap) tk vs, (∀ b o, s.heap.get? b = some o → h'.get? b = some o) → Pv vs → wpAny (model prog w) A.in1 (call (.builtin "list.sort") [.ref h'.objs.size]) (fun _ s' => Q (.ref h'.objs.size) s') E { s with heap := h'.push (seqObj "list" vs.toArray 0), toks := tk }) :
    wpAny (model prog w) A (call (.builtin "sorted") [.ref a]) Q E s := by
  refine Calls.call_function_entry kind_sorted plain_sorted entry_sorted (args_sorted1 _) ?_
  unfold Builtin.«sorted»
  refine wpAny_bind (m := checkCount "sorted" 1 1 _) (wpAny_pure ?_)
  refine wpAny_bind (hcoll _ fun h' tk vs hk hv => ?_)
  refine wpAny_bind (wpAny_newList ?_ (hl vs hv))
  have hg := h h' tk vs hk hv
  refine wpAny_bind (wpAny_holding (wpAny_mono hg (fun _ s' x => ?_) fun _ _ e => e))
  exact wpAny_pure ⟨_, rfl, x⟩
def sortOk (K : PySem.W.Frag) (H : Hp) (Q : VK) (us : List V) : Prop := ∃ xs : List (V × PyData), xs.map Prod.fst = us ∧ (∀ p ∈ xs, Dp K H p.1 p.2) ∧ PySem.W.AllAlike (xs.map Prod.snd) ∧ PySem.W.Sortable (xs.map Prod.snd) ∧ (∀ p ∈ xs, p.2.depth ≤ 60) ∧
    ∀ l, H l = none → Q (.ref l) (upd H l (.lst ((xs.mergeSort (PySem.W.dataLe false Prod.snd)).map Prod.fst)))
def rSortU (K : PySem.W.Frag) : List V → Hp → VK → Prop := fun vs H Q => ∃ a, vs = [V.ref a] ∧ ((∃ us, SqL K H a us ∧ sortOk K H Q us) ∨ (∃ us, SqT K H a us ∧ sortOk K H Q us) ∨ (∃ kvs : List (Key × V), H a = some (.dK kvs) ∧ sortOk K H Q (kvs.map fun kv => kV kv.1)) ∨ (∃ kvs : List (List Key × V), H a = some (.dT kvs) ∧ ∀ bs, IsKeys H kvs bs → sortOk K H Q (bs.map V.ref)))
section
variable {X : Cx}
theorem sort_fin (hu : X.A.units + 64 < cLine) {pins : List (Addr × Obj)} {s : Shared} {σ : L2.St} {H : Hp} {a : Addr} {us : List V} {Q : VK} (I : Inv X pins σ H s) (hl : us.length ≤ sizeLine)
    (hcoll : ∀ R : List Value → Shared → Prop, (∀ (h' : Heap) tk vs, (∀ b o, s.heap.get? b = some o → h'.get? b = some o) → Vals us vs → R vs { s with heap := h', toks := tk }) → wpAny (model X.prog X.w) X.A.in1 (collect (.ref a)) R X.xe s)
    {xs : List (V × PyData)} (e1 : xs.map Prod.fst = us) (hd : ∀ p ∈ xs, Dp X.K H p.1 p.2) (hal : PySem.W.AllAlike (xs.map Prod.snd)) (hk : PySem.W.Sortable (xs.map Prod.snd)) (hdep : ∀ p ∈ xs, p.2.depth ≤ 60)
    (q : ∀ l, H l = none → Q (.ref l) (upd H l (.lst ((xs.mergeSort (PySem.W.dataLe false Prod.snd)).map Prod.fst)))) :
    wpAny (model X.prog X.w) X.A (call (.builtin "sorted") [.ref a]) (EP X pins σ Q) X.xe s := by
  subst e1
  refine sorted_coll (fun vs rv => by rw [← rv.length]; exact hl) hcoll fun h' tk vs keep rv => ?_
  have hlv : vs.length ≤ sizeLine := by rw [← rv.length]; exact hl
  have I1 : Inv X pins σ H { s with heap := h', toks := tk } := I.kept keep
  have nD : H h'.objs.size = none := I1.hok.fresh (Nat.le_refl _)
  have keep2 : ∀ b o, h'.get? b = some o → (h'.push (seqObj "list" vs.toArray 0)).get? b = some o := fun b o e => Heap.get?_push_of_some _ e
  have I2 : Inv X pins σ (upd H h'.objs.size (.lst (xs.map Prod.fst))) { s with heap := h'.push (seqObj "list" vs.toArray 0), toks := tk } :=
    I1.laid (t' := tk) (h' := h'.push (seqObj "list" vs.toArray 0)) keep2 (Nat.le_refl _) ⟨hl, vs, 0, rv, Heap.get?_push_size _ rfl⟩
  have er1 := each_reads I1 hd rv
  have er : PySem.W.EachIs (fun v (b : V × PyData) => ∃ as, Reads (h'.push (seqObj "list" vs.toArray 0)) v b.2 as ∧ h'.objs.size ∉ as) vs xs := er1.mono fun v b ⟨as, r⟩ => ⟨as, PyProof.Rows.Reads.keeps keep2 r, fun hm => by
    obtain ⟨o, eo⟩ := PyProof.On.reads_mem_get r _ hm
    exact absurd (Heap.lt_size eo) (Nat.lt_irrefl _)⟩
  refine PySem.W.list_sort_data (s := { s with heap := h'.push (seqObj "list" vs.toArray 0), toks := tk }) (R := fun v (b : V × PyData) => RelV b.1 v) (enc := Prod.snd) (Heap.get?_push_size _ rfl) (each_vals rv) er hal hk (by rw [← List.length_map]; exact hl) (fun b hb => ?_) fun out h1 h2 => ?_
  · have := hdep b hb
    show X.A.units + 1 + 1 + b.2.depth < cLine
    omega
  · obtain ⟨ep, he'⟩ := PyProof.Rows.sortedHeap_at (h := h'.push (seqObj "list" vs.toArray 0)) (a := h'.objs.size) (vs := vs) (n := 0) (out := out.toArray) (Heap.get?_push_size _ rfl)
    have sz : (h'.push (seqObj "list" vs.toArray 0)).objs.size = h'.objs.size + 1 := size_push' _ _
    have hlen : ((xs.mergeSort (PySem.W.dataLe false Prod.snd)).map Prod.fst).length ≤ sizeLine := by rw [List.length_map, List.length_mergeSort, ← List.length_map (f := Prod.fst)]; exact hl
    have J := I2.write (x := h'.objs.size) (e := h'.objs.size) (t' := tk) (o := .lst ((xs.mergeSort (PySem.W.dataLe false Prod.snd)).map Prod.fst)) (h' := PyProof.Rows.sortedHeap (h'.push (seqObj "list" vs.toArray 0)) h'.objs.size vs out.toArray)
      (by rw [upd_same]; trivial) (.inl rfl) (fun b u hb e => by
        have hlt : b < (h'.push (seqObj "list" vs.toArray 0)).objs.size := Heap.lt_size e
        exact (PyProof.Rows.sortedHeap_old hb hlt).trans e) ⟨_, he'⟩ ⟨hlen, out, ep, vals_each h2, he'⟩
    rw [upd_upd] at J
    exact ⟨.ref h'.objs.size, _, J, rfl, q _ nD⟩
theorem cr_sortedU (hc : X.calm = true) (hu : X.A.units + 64 < cLine) : CallR X (.builtin "sorted") (rSortU X.K) := by
  intro pins s σ H vs us Q I r h
  obtain ⟨a, rfl, kind⟩ := h
  rw [Vals.ref1 r]
  rcases kind with ⟨xs, hx, q⟩ | ⟨xs, hx, q⟩ | ⟨kvs, hx, q⟩ | ⟨kvs, hx, q⟩
  · obtain ⟨its, rv, pl, hz⟩ := I.list hx
    obtain ⟨ps, e1, e2, e3, e4, e5, e6⟩ := q
    exact sort_fin hu I hz (fun R hR => collect_list pl.isList (hR _ s.toks its (fun b o e => by rw [Heap.get?_update_ne _ _ _ _ (Nat.ne_of_lt (Heap.lt_size e))]; exact Heap.get?_push_of_some _ e) rv) (by rw [← rv.length]; exact hz)) e1 e2 e3 e4 e5 e6
  · obtain ⟨its, rv, pl, hz⟩ := I.tuple hx
    obtain ⟨ps, e1, e2, e3, e4, e5, e6⟩ := q
    exact sort_fin hu I hz (fun R hR => collect_tuple (show s.heap.IsTuple a its.toArray from pl) (hR _ s.toks its (fun b o e => by rw [Heap.get?_update_ne _ _ _ _ (Nat.ne_of_lt (Heap.lt_size e))]; exact Heap.get?_push_of_some _ e) rv) (by rw [← rv.length]; exact hz)) e1 e2 e3 e4 e5 e6
  · obtain ⟨z, lo, vs, rk, hd⟩ := (show ObjOk X.prog X.w H s.heap a (.dK kvs) from I.hok a _ hx)
    obtain ⟨ep, hat⟩ := hd.dictAt
    have hl : kvs.length = vs.length := Paired.length rk
    obtain ⟨ps, e1, e2, e3, e4, e5, e6⟩ := q
    refine sort_fin hu I (by rw [List.length_map]; exact z) (fun R hR => ?_) e1 e2 e3 e4 e5 e6
    refine PySem.W.kdu_collect (A := X.A.in1) (PySem.W.kdl_dict (knd := mixKind X.prog X.w) (kvs := vs) (ep := ep) lo) (I.ok.hd hc) hat (by omega) fun h' tk acc hk it => ?_
    refine hR h' tk _ hk ?_
    refine vals_of_at (by rw [List.length_map, hl]; have h1 := it.1; have h2 : acc.toList.length = acc.size := (by simp); omega) fun j x w h1 h2 => ?_
    obtain ⟨k, y, hky, hi⟩ := it.2 j w (by rw [← Array.getElem?_toList]; exact h2)
    have e1 : (kvs.map (·.1))[j]? = some k := by
      rw [KV.keys rk, List.getElem?_map, hky] <;> rfl
    have e2 : (kvs.map fun kv => kV kv.1)[j]? = some (kV k) := by
      have e3 : (kvs.map fun kv => kV kv.1) = (kvs.map (·.1)).map kV := by rw [List.map_map] <;> rfl
      rw [e3, List.getElem?_map, e1] <;> rfl
    rw [e2] at h1
    cases h1
    exact keyIs_rel hi
  · obtain ⟨z, hs, ks, pr, o, es, ep, ho, hx', hdt, he, hn⟩ := (show ObjOk X.prog X.w H s.heap a (.dT kvs) from I.hok a _ hx)
    have l1 : es.size = ks.length := size_of_entries he
    have l2 : kvs.length = ks.length := Paired.length pr
    obtain ⟨ps, e1, e2, e3, e4, e5, e6⟩ := q _ (isKeys_of pr)
    refine sort_fin hu I (by rw [List.length_map, List.length_map]; omega) (fun R hR => ?_) e1 e2 e3 e4 e5 e6
    refine PySem.W.kdu_collect (A := X.A.in1) (kdl_raw hs hx' hdt) (I.ok.hd hc) ho (by omega) fun h' tk acc hk it => ?_
    have ea : acc.toList = (ks.map fun x => x.2.1).map Value.ref := by
      have hl : acc.toList.length = ks.length := by rw [Array.length_toList, it.1]; exact l1
      apply List.ext_getElem?
      intro j
      rw [List.getElem?_map, List.getElem?_map]
      cases hj : acc.toList[j]? with
      | none =>
        have h1 := List.getElem?_eq_none_iff.mp hj
        rw [List.getElem?_eq_none (by omega)]
        rfl
      | some v =>
        obtain ⟨en, hen, hv⟩ := it.2 j v (by rw [← Array.getElem?_toList]; exact hj)
        have qe := entry_at he j
        rw [hen] at qe
        cases hb : ks[j]? with
        | none =>
          rw [hb] at qe
          exact nomatch (show some en = none from qe)
        | some b =>
          rw [hb] at qe
          have e2 : en = entryOfKey (tupleKind (mixKind X.prog X.w)) b := Option.some.inj qe
          rw [hv, e2]
          rfl
    exact hR h' tk _ hk (by rw [ea]; exact vals_refs _)
end
/-! as data -/
def kP : Key → PyData
  | .inl i => .int i
  | .inr x => .str x
def tP (k : List Key) : PyData := .tuple (k.map kP)
def DV.items : DV → Option (List PyData)
  | .d (.list xs) => some xs
  | .d (.tuple xs) => some xs
  | .l _ xs => some xs
  | .dk _ kvs => some (kvs.map fun kv => kP kv.1)
  | .dt _ kvs => some (kvs.map fun kv => tP kv.1)
  | _ => none
section
variable {A : Anc} {F : Addr → Prop} {H : Hp}
theorem rp_key (k : Key) : Rp F H (kV k) (kP k) := by cases k <;> first | exact .int _ | exact .str _
theorem rp_keys : ∀ ks : List Key, RpA F H (ks.map kV) (ks.map kP)
  | [] => .nil
  | k :: r => .cons (rp_key k) (rp_keys r)
/-- the keys' own tuples as data -/
theorem isKeys_rp {kvs : List (List Key × V)} {bs : List Addr} (h : IsKeys H kvs bs) (hb : ∀ b ∈ bs, F b) : RpA F H (bs.map V.ref) (kvs.map fun kv => tP kv.1) := by
  induction h with
  | nil => exact .nil
  | cons a t ih => exact .cons (.tup (hb _ (by simp)) a (rp_keys _)) (ih fun b m => hb b (by simp [m]))
theorem isKeys_tup {kvs : List (List Key × V)} {bs : List Addr} (h : IsKeys H kvs bs) : ∀ b ∈ bs, ∃ xs, H b = some (.tup xs) := by
  induction h with
  | nil => intro b m; cases m
  | cons a t ih =>
    intro b m
    rcases List.mem_cons.mp m with m | m
    · rw [m]; exact ⟨_, a⟩
    · exact ih b m
theorem rpa_pairs : ∀ {us : List V} {ds : List PyData}, RpA F H us ds → ∃ xs : List (V × PyData), xs.map Prod.fst = us ∧ xs.map Prod.snd = ds ∧ ∀ p ∈ xs, Rp F H p.1 p.2
  | _, _, .nil => ⟨[], rfl, rfl, fun p h => nomatch h⟩
  | _, _, .cons (v := v) (d := d) a b => by
    obtain ⟨xs, e1, e2, h⟩ := rpa_pairs b
    refine ⟨(v, d) :: xs, by rw [List.map_cons, e1], by rw [List.map_cons, e2], fun p hp => ?_⟩
    rcases List.mem_cons.mp hp with e | e
    · subst e; exact a
    · exact h p e
theorem pairs_rpa : ∀ {xs : List (V × PyData)}, (∀ p ∈ xs, Rp F H p.1 p.2) → RpA F H (xs.map Prod.fst) (xs.map Prod.snd)
  | [], _ => .nil
  | p :: xs, h => .cons (h p (by simp)) (pairs_rpa fun q hq => h q (by simp [hq]))
theorem sort_ready {K : PySem.W.Frag} {S : Option (Addr × Addr)} {us : List V} {ds : List PyData} {Q : VK} (ra : RpA F H us ds) (hal : PySem.W.AllAlike ds) (hk : PySem.W.Sortable ds) (hd : ∀ d ∈ ds, d.depth ≤ 60)
    (q : ∀ l ws, H l = none → RpA F H ws (srt ds) → Q (.ref l) (upd H l (.lst ws))) : sortOk K H Q us := by
  obtain ⟨xs, e1, e2, h⟩ := rpa_pairs ra
  subst e1 e2
  refine ⟨xs, rfl, fun p hp => (h p hp).dp, hal, hk, fun p hp => hd _ (List.mem_map.mpr ⟨p, hp, rfl⟩), fun l nl => q l _ nl ?_⟩
  rw [← srt_snd]
  exact pairs_rpa fun p hp => h p (List.mem_mergeSort.mp hp)
def sortD : Dcr
  | [x], Q => ∃ ds, x.items = some ds ∧ PySem.W.AllAlike ds ∧ PySem.W.Sortable ds ∧ (∀ d ∈ ds, d.depth ≤ 60) ∧ Q (.l .mine (srt ds))
  | _, _ => False
theorem krep_keys {κ : Type} {ks : List (κ × V)} {kvs : List (κ × PyData)} (h : KRep F H ks kvs) {β : Type} (f : κ → β) : (ks.map fun kv => f kv.1) = kvs.map fun kv => f kv.1 := by
  have := congrArg (List.map f) h.1
  rwa [List.map_map, List.map_map] at this
theorem sortDL : CaL A (rSortU A.K) sortD := by
  refine ⟨fun F H Hs xs vs Q R an rr h k => ?_⟩
  unfold sortD at h
  split at h
  · rename_i x
    obtain ⟨v, rfl, rx⟩ := reps1 rr
    obtain ⟨ds, e, h1, h2, h3, q⟩ := h
    have fin : ∀ (F2 : Addr → Prop), Gr A.S F H F2 H → ∀ l ws, H l = none → RpA F2 H ws (srt ds) → R (.ref l) (upd H l (.lst ws)) := fun F2 g l ws nl r => k _ _ _ _ q (g.trans (Gr.newO g.ok nl)) (new_lst g.ok nl r) (fresh_ref nl)
    cases x with
    | d z =>
      cases z <;> cases e
      · obtain ⟨a, us, rfl, e1, e2, e3⟩ := rep_lst (xs := ds) rfl an.ok rx
        exact ⟨a, rfl, .inl ⟨us, SqL.of e1, sort_ready (S := A.S) e3 h1 h2 h3 (fin F (Gr.refl an.ok))⟩⟩
      · obtain ⟨a, us, rfl, e1, e2, e3⟩ := rep_tup (xs := ds) rfl rx
        exact ⟨a, rfl, .inr (.inl ⟨us, SqT.of e1, sort_ready (S := A.S) e3 h1 h2 h3 (fin F (Gr.refl an.ok))⟩)⟩
    | l w z =>
      cases e
      obtain ⟨a, us, rfl, e1, e2, e3⟩ := rep_lst (xs := ds) rfl an.ok rx
      exact ⟨a, rfl, .inl ⟨us, SqL.of e1, sort_ready (S := A.S) e3 h1 h2 h3 (fin F (Gr.refl an.ok))⟩⟩
    | dk w kvs =>
      cases e
      obtain ⟨a, ks, rfl, e1, e2, e3, e4⟩ := rx
      refine ⟨a, rfl, .inr (.inr (.inl ⟨ks, e1, sort_ready (S := A.S) (ds := kvs.map fun kv => kP kv.1) ?_ h1 h2 h3 (fin F (Gr.refl an.ok))⟩))⟩
      have c := rp_keys (F := F) (H := H) (ks.map Prod.fst)
      rw [List.map_map, List.map_map] at c
      have c2 : (ks.map (kP ∘ Prod.fst)) = kvs.map fun kv => kP kv.1 := krep_keys e3 kP
      rw [c2] at c
      exact c
    | dt w kvs =>
      cases e
      obtain ⟨a, ks, rfl, e1, e2, e3, e4⟩ := rx
      refine ⟨a, rfl, .inr (.inr (.inr ⟨ks, e1, fun bs hb => ?_⟩))⟩
      have g := (Gr.refl an.ok).tups (fun b => b ∈ bs) (isKeys_tup hb)
      have c := isKeys_rp (F := fun b => F b ∨ b ∈ bs) hb fun b m => .inr m
      have c2 : (ks.map fun kv => tP kv.1) = kvs.map fun kv => tP kv.1 := krep_keys e3 tP
      rw [c2] at c
      exact sort_ready (S := A.S) c h1 h2 h3 (fin _ g)
    | src => cases e
  · exact h.elim
end
end Dl
namespace Dl
open PySem L2 Gk PyProof.Rows
/-! dicts -/
section
variable {κ : Type} [DecidableEq κ]
def getK (kvs : List (κ × PyData)) (k : κ) : Option PyData := (kvs.find? fun kv => decide (kv.1 = k)).map (·.2)
def putD (kvs : List (κ × PyData)) (k : κ) (v : PyData) : List (κ × PyData) :=
  if (kvs.any fun kv => decide (kv.1 = k)) = true then kvs.map (fun kv => if kv.1 = k then (kv.1, v) else kv) else kvs ++ [(k, v)]
variable {F : Addr → Prop} {H : Hp}
theorem krep_cons {p : κ × V} {q : κ × PyData} {ks : List (κ × V)} {kvs : List (κ × PyData)} (h : KRep F H (p :: ks) (q :: kvs)) : p.1 = q.1 ∧ Rp F H p.2 q.2 ∧ KRep F H ks kvs := by
  obtain ⟨h1, h2⟩ := h
  rw [List.map_cons, List.map_cons] at h1 h2
  cases h2 with
  | cons a b => exact ⟨List.cons.inj h1 |>.1, a, List.cons.inj h1 |>.2, b⟩
theorem krep_mk {p : κ × V} {q : κ × PyData} {ks : List (κ × V)} {kvs : List (κ × PyData)} (e : p.1 = q.1) (r : Rp F H p.2 q.2) (h : KRep F H ks kvs) : KRep F H (p :: ks) (q :: kvs) :=
  ⟨by rw [List.map_cons, List.map_cons, e, h.1], .cons r h.2⟩
theorem krep_get : ∀ {ks : List (κ × V)} {kvs : List (κ × PyData)} {k : κ}, KRep F H ks kvs → (∃ x z, valV ks k = some x ∧ getK kvs k = some z ∧ Rp F H x z) ∨ (valV ks k = none ∧ getK kvs k = none)
  | [], [], _, _ => .inr ⟨rfl, rfl⟩
  | [], _ :: _, _, h => by have := h.1; simp at this
  | _ :: _, [], _, h => by have := h.1; simp at this
  | p :: ks, q :: kvs, k, h => by
    obtain ⟨e, r, h'⟩ := krep_cons h
    unfold valV getK
    by_cases z : p.1 = k
    · rw [List.find?_cons_of_pos (by simp [z]), List.find?_cons_of_pos (by simp [← e, z])]
      exact .inl ⟨_, _, rfl, rfl, r⟩
    · rw [List.find?_cons_of_neg (by simp [z]), List.find?_cons_of_neg (by simp [← e, z])]
      exact krep_get (k := k) h'
theorem krep_any : ∀ {ks : List (κ × V)} {kvs : List (κ × PyData)} (k : κ), KRep F H ks kvs → (ks.any fun kv => decide (kv.1 = k)) = kvs.any fun kv => decide (kv.1 = k)
  | [], [], _, _ => rfl
  | [], _ :: _, _, h => by have := h.1; simp at this
  | _ :: _, [], _, h => by have := h.1; simp at this
  | p :: ks, q :: kvs, k, h => by
    obtain ⟨e, r, h'⟩ := krep_cons h
    rw [List.any_cons, List.any_cons, e, krep_any k h']
theorem krep_upd {x : V} {z : PyData} {k : κ} (r : Rp F H x z) : ∀ {ks : List (κ × V)} {kvs : List (κ × PyData)}, KRep F H ks kvs → KRep F H (ks.map fun kv => if kv.1 = k then (kv.1, x) else kv) (kvs.map fun kv => if kv.1 = k then (kv.1, z) else kv)
  | [], [], h => h
  | [], _ :: _, h => by have := h.1; simp at this
  | _ :: _, [], h => by have := h.1; simp at this
  | p :: ks, q :: kvs, h => by
    obtain ⟨e, r', h'⟩ := krep_cons h
    rw [List.map_cons, List.map_cons]
    by_cases c : p.1 = k
    · rw [if_pos c, if_pos (e ▸ c)]
      exact krep_mk e r (krep_upd r h')
    · rw [if_neg c, if_neg (e ▸ c)]
      exact krep_mk e r' (krep_upd r h')
theorem krep_app {ks ls : List (κ × V)} {kvs lvs : List (κ × PyData)} (h : KRep F H ks kvs) (h2 : KRep F H ls lvs) : KRep F H (ks ++ ls) (kvs ++ lvs) :=
  ⟨by rw [List.map_append, List.map_append, h.1, h2.1], by rw [List.map_append, List.map_append]; exact h.2.app h2.2⟩
theorem krep_put {x : V} {z : PyData} {k : κ} {ks : List (κ × V)} {kvs : List (κ × PyData)} (h : KRep F H ks kvs) (r : Rp F H x z) : KRep F H (putK ks k x) (putD kvs k z) := by
  unfold putK putD
  rw [krep_any k h]
  split
  · exact krep_upd r h
  · exact krep_app h (krep_mk rfl r ⟨rfl, .nil⟩)
end
def keyOf : PyData → Option Key
  | .int i => some (.inl i)
  | .str x => some (.inr x)
  | _ => none
def keysOf : List PyData → Option (List Key)
  | [] => some []
  | x :: r => match keyOf x, keysOf r with
    | some k, some ks => some (k :: ks)
    | _, _ => none
theorem keyOf_eq {x : PyData} {k : Key} (h : keyOf x = some k) : x = kP k := by
  cases x <;> cases h <;> rfl
theorem keysOf_eq : ∀ {x : List PyData} {k : List Key}, keysOf x = some k → x = k.map kP
  | [], _, h => by cases h; rfl
  | x :: r, ks, h => by
    unfold keysOf at h
    split at h
    · rename_i k ks' e1 e2
      cases h
      rw [keyOf_eq e1, keysOf_eq e2]; rfl
    · cases h
theorem keysOf_ints : ∀ ns : List Int, keysOf (ns.map PyData.int) = some (ns.map Sum.inl)
  | [] => rfl
  | n :: r => by simp only [List.map_cons, keysOf, keyOf, keysOf_ints r]
section
variable {F : Addr → Prop} {H : Hp}
theorem rp_kP {k : Key} {v : V} (h : Rp F H v (kP k)) : v = kV k := by
  cases k with
  | inl i => cases h; rfl
  | inr x => cases h; rfl
theorem rpa_kP : ∀ {ks : List Key} {vs : List V}, RpA F H vs (ks.map kP) → vs = ks.map kV
  | [], _, h => by cases h; rfl
  | k :: r, _, h => by
    cases h with
    | cons a b => rw [rp_kP a, rpa_kP b]; rfl
end
/-- d[k] = v, d a name's own -/
def dDput (i : Nat) (dk dv : Dte) : Dts := fun D ρ => match gs ρ i with
  | some (.dk .mine kvs) => dv ρ fun y => dk ρ fun x => match y.sto, x with
    | some z, .d x => match keyOf x with
      | some k => kvs.length < sizeLine ∧ D.nx (st ρ i (some (.dk .mine (putD kvs k z))))
      | none => False
    | _, _ => False
  | some (.dt .mine kvs) => dv ρ fun y => dk ρ fun x => match y.sto, x with
    | some z, .d (.tuple xs) => match keysOf xs with
      | some k => kvs.length < sizeLine ∧ D.nx (st ρ i (some (.dt .mine (putD kvs k z))))
      | none => False
    | _, _ => False
  | _ => False
section
variable {A : Anc} {X : Cx} {stm : Stmt} {i : Nat}
theorem rep_d {H0 : Hp} {S : Option (Addr × Addr)} {F : Addr → Prop} {H : Hp} {x : PyData} {v : V} (r : Rep H0 S F H (.d x) v) : Rp F H v x := r
theorem ds_dput {tk tv : Dte} (hps : PS X stm (sDPut (tVar i) (lift A tk) (lift A tv))) : DS A X stm (dDput i tk tv) :=
  ⟨psImp hps fun D σ H ⟨ρ, F, E, rel, h, c⟩ => by
    unfold dDput at h
    split at h
    · rename_i kvs hg
      refine ⟨ρ, F, _, rel, h, fun y v F1 H1 q g r f => ?_⟩
      have hi := gs_some hg
      obtain ⟨w0, hs, ⟨a, ks, rfl, ha, nb, kr, nf⟩, _, _⟩ := rel.sl i _ hi
      refine ⟨_, hs, ρ, F1, _, rel.grow g, q, fun x w F2 H2 q2 g2 rx fx => ?_⟩
      split at q2
      · rename_i z xx ez
        split at q2
        · rename_i k ek
          have gg := g.trans g2
          obtain ⟨F3, g3, rz, sub⟩ := kept1 gg (r.grow g.ok g2) f ez
          have r2 := rel.grow g3
          obtain ⟨w0, hs', ⟨a', ks', e', ha', nb', kr', nf'⟩, _, _⟩ := r2.sl i _ hi
          rw [hs] at hs'
          cases hs'
          cases e'
          have xw : w = kV k := by have rx := rep_d rx; rw [keyOf_eq ek] at rx; exact rp_kP rx
          subst xw
          have kn : KRep F3 (upd H2 a (.dK (putK ks' k v))) (putK ks' k v) (putD kvs k z) := by
            have := krep_put (k := k) kr' rz
            exact ⟨this.1, this.2.mono (fun _ h => h) fun b o f e => by rw [upd_ne (fun q => nf' (by rw [← q]; exact f))]; exact e⟩
          have m := r2.mut (y := .dk .mine (putD kvs k z)) (o := .dK (putK ks' k v)) hi hs rfl rfl ⟨a, _, rfl, upd_same, nb', kn, nf'⟩ (fun _ e => nomatch e)
          exact ⟨a, _, rfl, DPut.k ha' (by rw [krep_len kr']; exact q2.1), c.nx _ F3 _ _ q2.2 m.1 ((g3.stg rel.ok).trans m.2)⟩
        · exact q2.elim
      · exact q2.elim
    · rename_i kvs hg
      refine ⟨ρ, F, _, rel, h, fun y v F1 H1 q g r f => ?_⟩
      have hi := gs_some hg
      obtain ⟨w0, hs, ⟨a, ks, rfl, ha, nb, kr, nf⟩, _, _⟩ := rel.sl i _ hi
      refine ⟨_, hs, ρ, F1, _, rel.grow g, q, fun x w F2 H2 q2 g2 rx fx => ?_⟩
      split at q2
      · rename_i z xx ez
        split at q2
        · rename_i k ek
          have gg := g.trans g2
          obtain ⟨F3, g3, rz, sub⟩ := kept1 gg (r.grow g.ok g2) f ez
          have r2 := rel.grow g3
          obtain ⟨w0, hs', ⟨a', ks', e', ha', nb', kr', nf'⟩, _, _⟩ := r2.sl i _ hi
          rw [hs] at hs'
          cases hs'
          cases e'
          obtain ⟨b, ws, rfl, hb, fb, rb⟩ := rep_tup (xs := xx) rfl rx
          rw [keysOf_eq ek] at rb
          rw [rpa_kP rb] at hb
          have kn : KRep F3 (upd H2 a (.dT (putK ks' k v))) (putK ks' k v) (putD kvs k z) := by
            have := krep_put (k := k) kr' rz
            exact ⟨this.1, this.2.mono (fun _ h => h) fun b o f e => by rw [upd_ne (fun q => nf' (by rw [← q]; exact f))]; exact e⟩
          have m := r2.mut (y := .dt .mine (putD kvs k z)) (o := .dT (putK ks' k v)) hi hs rfl rfl ⟨a, _, rfl, upd_same, nb', kn, nf'⟩ (fun _ e => nomatch e)
          exact ⟨a, _, rfl, DPut.t ha' hb (by rw [krep_len kr']; exact q2.1), c.nx _ F3 _ _ q2.2 m.1 ((g3.stg rel.ok).trans m.2)⟩
        · exact q2.elim
      · exact q2.elim
    · exact h.elim⟩
end
/-! asked -/
def lookV (x k : DV) : Option (Option PyData) := match x, k with
  | .dk _ kvs, .d z => (keyOf z).map (getK kvs)
  | .dt _ kvs, .d (.tuple zs) => (keysOf zs).map (getK kvs)
  | _, _ => none
def look (x k : DV) (Q : Option PyData → Prop) : Prop := ∃ r, lookV x k = some r ∧ Q r
section
variable {A : Anc} {X : Cx} {o k e : Expr} {pos : Pos} {td tk : Dte}
theorem look_rep {H0 : Hp} {S : Option (Addr × Addr)} {F : Addr → Prop} {H : Hp} {x kx : DV} {v w : V} {Q : Option PyData → Prop} (h : look x kx Q) (rx : Rep H0 S F H x v) (rk : Rep H0 S F H kx w) :
    ∃ a, v = .ref a ∧ ((∃ y z, DGet H a w (some y) ∧ Rp F H y z ∧ Q (some z)) ∨ (DGet H a w none ∧ Q none)) := by
  obtain ⟨r, er, h⟩ := h
  unfold lookV at er
  split at er
  · rename_i wo kvs z
    obtain ⟨k, ek, rfl⟩ := Option.map_eq_some_iff.mp er
    obtain ⟨a, ks, rfl, h1, h2, h3, h4⟩ := rx
    have xw : w = kV k := by have rk := rep_d rk; rw [keyOf_eq ek] at rk; exact rp_kP rk
    subst xw
    have d := DGet.k (k := k) h1
    refine ⟨a, rfl, ?_⟩
    rcases krep_get (k := k) h3 with ⟨y, z, e1, e2, r⟩ | ⟨e1, e2⟩
    · rw [e1] at d; rw [e2] at h; exact .inl ⟨y, z, d, r, h⟩
    · rw [e1] at d; rw [e2] at h; exact .inr ⟨d, h⟩
  · rename_i wo kvs zs
    obtain ⟨k, ek, rfl⟩ := Option.map_eq_some_iff.mp er
    obtain ⟨a, ks, rfl, h1, h2, h3, h4⟩ := rx
    obtain ⟨b, ws, rfl, hb, fb, rb⟩ := rep_tup (xs := zs) rfl rk
    rw [keysOf_eq ek] at rb
    rw [rpa_kP rb] at hb
    have d := DGet.t (k := k) h1 hb
    refine ⟨a, rfl, ?_⟩
    rcases krep_get (k := k) h3 with ⟨y, z, e1, e2, r⟩ | ⟨e1, e2⟩
    · rw [e1] at d; rw [e2] at h; exact .inl ⟨y, z, d, r, h⟩
    · rw [e1] at d; rw [e2] at h; exact .inr ⟨d, h⟩
  · cases er
/-- d[k] -/
def dDget (td tk : Dte) : Dte := fun ρ Q => td ρ fun x => tk ρ fun y => look x y fun r => match r with
  | some z => Q (.d z)
  | none => False
theorem de_dget (hu : X.A.units + 64 < cLine) (ho : DE A X o td) (hk : DE A X k tk) (hs : NoSl k := by exact fun _ _ => rfl) : DE A X (.Subscript o k pos) (dDget td tk) :=
  ⟨peImp (pe_dget (by omega) ho.pe hk.pe hs) fun σ H R ⟨ρ, F, Q, rel, h, k⟩ => ⟨ρ, F, _, rel, h, fun x v F1 H1 q g r f => ⟨ρ, F1, _, rel.grow g, q, fun y w F2 H2 q2 g2 r2 f2 => by
    obtain ⟨a, ea, hh⟩ := look_rep q2 (r.grow g.ok g2) r2
    rcases hh with ⟨y, z, d, rz, qz⟩ | ⟨d, qz⟩
    · exact ⟨a, y, ea, d, k _ _ F2 H2 qz (g.trans g2) rz (fresh_no rfl)⟩
    · exact qz.elim⟩⟩⟩
/-- k in d, k not in d -/
def dDin (n : Bool) (tk td : Dte) : Dte := fun ρ Q => tk ρ fun y => td ρ fun x => look x y fun r => Q (.d (.bool (n ^^ r.isSome)))
theorem pc_in (hu : X.A.units + 64 < cLine) (hk : DE A X k tk) (ho : DE A X o td) : PC X .In k o (lift A (dDin false tk td)) :=
  ⟨fun pins s σ H Q I h => (pc_din (by omega) hk.pe ho.pe).run pins s σ H Q I (by
    obtain ⟨ρ, F, Q', rel, h, k⟩ := h
    refine ⟨ρ, F, _, rel, h, fun y w F1 H1 q g r f => ⟨ρ, F1, _, rel.grow g, q, fun x v F2 H2 q2 g2 r2 f2 => ?_⟩⟩
    obtain ⟨a, ea, hh⟩ := look_rep q2 r2 (r.grow g.ok g2)
    rcases hh with ⟨y, z, d, rz, qz⟩ | ⟨d, qz⟩
    · exact ⟨a, _, ea, d, k _ _ F2 H2 qz (g.trans g2) (Rp.bl _) (fresh_no rfl)⟩
    · exact ⟨a, _, ea, d, k _ _ F2 H2 qz (g.trans g2) (Rp.bl _) (fresh_no rfl)⟩)⟩
theorem pc_ni (hu : X.A.units + 64 < cLine) (hk : DE A X k tk) (ho : DE A X o td) : PC X .NotIn k o (lift A (dDin true tk td)) :=
  ⟨fun pins s σ H Q I h => (pc_dnotin (by omega) hk.pe ho.pe).run pins s σ H Q I (by
    obtain ⟨ρ, F, Q', rel, h, k⟩ := h
    refine ⟨ρ, F, _, rel, h, fun y w F1 H1 q g r f => ⟨ρ, F1, _, rel.grow g, q, fun x v F2 H2 q2 g2 r2 f2 => ?_⟩⟩
    obtain ⟨a, ea, hh⟩ := look_rep q2 r2 (r.grow g.ok g2)
    rcases hh with ⟨y, z, d, rz, qz⟩ | ⟨d, qz⟩
    · exact ⟨a, _, ea, d, k _ _ F2 H2 qz (g.trans g2) (Rp.bl _) (fresh_no rfl)⟩
    · exact ⟨a, _, ea, d, k _ _ F2 H2 qz (g.trans g2) (Rp.bl _) (fresh_no rfl)⟩)⟩
theorem de_in (h : PC X .In k o (lift A td)) (h1 : behindInMarks .In o = false := by rfl) : DE A X (.Compare k [.In] [o] pos) td := ⟨pe_cmp h h1⟩
theorem de_ni (h : PC X .NotIn k o (lift A td)) (h1 : behindInMarks .NotIn o = false := by rfl) : DE A X (.Compare k [.NotIn] [o] pos) td := ⟨pe_cmp h h1⟩
theorem dt_in (h : PC X .In k o (lift A td)) (h1 : behindInMarks .In o = false := by rfl) : DT A X (.Compare k [.In] [o] pos) (dTest td) := ⟨ptImp (pt_cmp h h1) fun σ H R h => lift_test _ σ H R h⟩
theorem dt_ni (h : PC X .NotIn k o (lift A td)) (h1 : behindInMarks .NotIn o = false := by rfl) : DT A X (.Compare k [.NotIn] [o] pos) (dTest td) := ⟨ptImp (pt_cmp h h1) fun σ H R h => lift_test _ σ H R h⟩
/-- {} -/
def dNewK : Dte := fun _ Q => Q (.dk .mine [])
def dNewT : Dte := fun _ Q => Q (.dt .mine [])
theorem de_dnewK : DE A X (.Dict [] [] pos) dNewK := ⟨peImp pe_dnewK fun σ H R ⟨ρ, F, Q, rel, h, k⟩ => fun p hp => k _ _ F _ h (Gr.newO rel.ok hp) ⟨p, [], rfl, upd_same, bad_none rel.ok hp, ⟨rfl, .nil⟩, fun f => by obtain ⟨o, q⟩ := rel.ok.f p f; rw [hp] at q; cases q⟩ (fresh_ref hp)⟩
theorem de_dnewT : DE A X (.Dict [] [] pos) dNewT := ⟨peImp pe_dnewT fun σ H R ⟨ρ, F, Q, rel, h, k⟩ => fun p hp => k _ _ F _ h (Gr.newO rel.ok hp) ⟨p, [], rfl, upd_same, bad_none rel.ok hp, ⟨rfl, .nil⟩, fun f => by obtain ⟨o, q⟩ := rel.ok.f p f; rw [hp] at q; cases q⟩ (fresh_ref hp)⟩
end
end Dl
namespace Dl
open PySem L2 Gk PyProof.Rows
section
variable {A : Anc} {X : Cx} {stm : Stmt} {e : Expr} {de da db dc : Dte}
/-- a, b = x, y -/
def dPar (i j : Nat) (da db : Dte) : Dts := fun D ρ => da ρ fun x => db ρ fun y => match x.slot, y.slot with
  | some x, some y => D.nx (st (st ρ i (some x)) j (some y))
  | _, _ => False
theorem two_set {ρ : Ds} {F F1 F2 : Addr → Prop} {σ : L2.St} {H H1 H2 : Hp} {x y : DV} {v w : V} (rel : Rel A ρ F σ H) (g : Gr A.S F H F1 H1) (g2 : Gr A.S F1 H1 F2 H2) (r : Rep A.H0 A.S F1 H1 x v) (f : Fresh H x v) (r2 : Rep A.H0 A.S F2 H2 y w) (f2 : Fresh H1 y w)
    (i j : Nat) (cx : x.isCur = false) (cy : y.isCur = false) : Rel A (st (st ρ i (some x)) j (some y)) F2 ((σ.set i (some v)).set j (some w)) H2 :=
  (rel.set g i r f cx).set g2 j r2 f2 cy
theorem ds_par {i j : Nat} (hps : PS X stm (tPar i j (tCons (lift A da) (tCons (lift A db) tNil)))) : DS A X stm (dPar i j da db) :=
  ⟨psImp hps fun D σ H ⟨ρ, F, E, rel, h, c⟩ => ⟨ρ, F, _, rel, h, fun x v F1 H1 q g r f => ⟨ρ, F1, _, rel.grow g, q, fun y w F2 H2 q2 g2 r2 f2 => by
    split at q2
    · rename_i x' y' e1 e2
      obtain ⟨rfl, cx⟩ := slot_eq e1
      obtain ⟨rfl, cy⟩ := slot_eq e2
      exact ⟨v, w, rfl, c.nx _ F2 _ H2 q2 (two_set rel g g2 r f r2 f2 i j cx cy) ((g.trans g2).stg rel.ok)⟩
    · exact q2.elim⟩⟩⟩
def dPar3 (i j l : Nat) (da db dc : Dte) : Dts := fun D ρ => da ρ fun x => db ρ fun y => dc ρ fun z => match x.slot, y.slot, z.slot with
  | some x, some y, some z => D.nx (st (st (st ρ i (some x)) j (some y)) l (some z))
  | _, _, _ => False
theorem ds_par3 {i j l : Nat} (hps : PS X stm (tPar3 i j l (tCons (lift A da) (tCons (lift A db) (tCons (lift A dc) tNil))))) : DS A X stm (dPar3 i j l da db dc) :=
  ⟨psImp hps fun D σ H ⟨ρ, F, E, rel, h, c⟩ => ⟨ρ, F, _, rel, h, fun x v F1 H1 q g r f => ⟨ρ, F1, _, rel.grow g, q, fun y w F2 H2 q2 g2 r2 f2 => ⟨ρ, F2, _, (rel.grow g).grow g2, q2, fun z u F3 H3 q3 g3 r3 f3 => by
    split at q3
    · rename_i x' y' z' e1 e2 e3
      obtain ⟨rfl, cx⟩ := slot_eq e1
      obtain ⟨rfl, cy⟩ := slot_eq e2
      obtain ⟨rfl, cz⟩ := slot_eq e3
      exact ⟨v, w, u, rfl, c.nx _ F3 _ H3 q3 ((two_set rel g g2 r f r2 f2 i j cx cy).set g3 l r3 f3 cz) (((g.trans g2).trans g3).stg rel.ok)⟩
    · exact q3.elim⟩⟩⟩⟩
/-- (a, b) = e -/
def dAsg (de : Dte) (G : Dtg) : Dts := fun D ρ => de ρ fun x => match x with
  | .d z => G z ρ D.nx
  | _ => False
theorem ds_asg {g : TG} {G : Dtg} {vs : List Nat} (hl : GL A g G vs) (hps : PS X stm (tAsg (lift A de) g)) : DS A X stm (dAsg de G) :=
  ⟨psImp hps fun D σ H ⟨ρ, F, E, rel, h, c⟩ => ⟨ρ, F, _, rel, h, fun x v F1 H1 q gr r f => by
    cases x with
    | d z => exact hl.run ρ F1 σ H1 v z _ _ (rel.grow gr) r q fun ρ' σ' q' r' _ => c.nx ρ' F1 σ' H1 q' r' (gr.stg rel.ok)
    | _ => exact q.elim⟩⟩
/-- x[::-1] -/
def revD (x : DV) (Q : DV → Prop) : Prop := match x with
  | .d (.tuple ds) => Q (.d (.tuple ds.reverse))
  | x => match x.lst with
    | some ds => Q (.l .mine ds.reverse)
    | none => False
end
/-! the source of draws -/
section
variable {P : Program} {w : World} {K : PySem.W.Frag} {mg : Str → Option Value} {base : Heap}
def spPick : Sp := fun vs H Q _ => ∃ (p c : Addr) (n : Int), vs = [.ref p, .int n] ∧ n.natAbs < 2 ^ 60 ∧ Src H p c ∧
  ∀ H' (r : Int), But p c H H' → Src H' p c → 0 ≤ r → (r < n ∨ r = 0) → Q (.int r) H'
def dPick : Dsp := fun args Q => ∃ n : Int, args = [.src, .d (.int n)] ∧ n.natAbs < 2 ^ 60 ∧ ∀ i : Nat, ((i : Int) < n ∨ i = 0) → Q (.d (.int (i : Int)))
theorem bad_src {p c b : Addr} : bad (some (p, c)) b ↔ b = p ∨ b = c := by
  constructor
  · rintro ⟨p', c', e, h⟩
    cases e
    exact h
  · intro h; exact ⟨p, c, rfl, h⟩
theorem but_gr {p c : Addr} {F : Addr → Prop} {H H' : Hp} (ok : Ok (some (p, c)) F H) (b : But p c H H') (s : Src H' p c) : Gr (some (p, c)) F H F H' :=
  ⟨fun a o nb e => b a o (fun q => nb (bad_src.mpr (.inl q))) (fun q => nb (bad_src.mpr (.inr q))) e, fun _ h => h, fun _ h n => absurd h n, ⟨fun a f => by
    obtain ⟨o, e⟩ := ok.f a f
    have nb := ok.b a f
    exact ⟨o, b a o (fun q => nb (bad_src.mpr (.inl q))) (fun q => nb (bad_src.mpr (.inr q))) e⟩, ok.b, fun q d e => by cases e; exact s⟩⟩
theorem FnG.imp {k : Nat} {f : Addr} {fd : FuncData} {ps : List Str} {sp sp' : Sp} (G : FnG P w K mg base k f fd ps sp) (h : ∀ vs H Q E, sp' vs H Q E → sp vs H Q E) : FnG P w K mg base k f fd ps sp' :=
  ⟨fun vs H Q E q => G.len vs H Q E (h _ _ _ _ q), fun A outer s H args us vs Q E hg hr he hb hv hs => G.run A outer s H args us vs Q E hg hr he hb hv (h _ _ _ _ hs)⟩
theorem pick_d {k : Nat} {f : Addr} {fd : FuncData} {ps : List Str} (G : FnOk P w K mg base CX0 k f fd ps spPick) : FnG P w K mg base k f fd ps (spL () dPick) :=
  FnG.imp (fnG_up G (Nat.le_refl _)) fun vs H Q E ⟨args, F, S, Qd, ok, r, nm, ⟨n, e, hn, hq⟩, k⟩ => by
    subst e
    obtain ⟨v, w, rfl, r1, r2⟩ := reps2 r
    obtain ⟨p, c, rfl, rfl⟩ := r1
    refine ⟨p, c, n, by rw [rep_int r2], hn, ok.s p c rfl, fun H' i b s h0 hi => ?_⟩
    obtain ⟨j, rfl⟩ := Int.eq_ofNat_of_zero_le h0
    exact k _ _ F H' (hq j (by omega)) rfl (but_gr ok b s) (Rp.int _) (fresh_no rfl)
/-- the law's own end -/
def spLaw (K : PySem.W.Frag) : Sp := fun vs H Q _ => ∃ (a : Addr) (ns : List Int), vs = [.ref a] ∧ SqL K H a (ns.map V.int) ∧ ns.length ≤ 63 ∧ ∀ H', Q (.bl true) H'
theorem spLaw_start {K : PySem.W.Frag} {H : Hp} {a : Addr} {ns : List Int} (hl : ns.length ≤ 63) (hS : SqL K H a (ns.map V.int)) : spLaw K [.ref a] H (fun v _ => v = .bl true) E0 := ⟨a, ns, rfl, hS, hl, fun _ => rfl⟩
def spOpen (K : PySem.W.Frag) : Sp := fun vs H Q _ => ∃ (a : Addr) (ns : List Int), vs = [.ref a] ∧ SqL K H a (ns.map V.int) ∧ ns.length ≤ 1000 ∧ ∀ H' p c, Same H H' → H p = none → H c = none → Src H' p c → Q (.ref p) H'
/-- the law's data at its second statement: the script is forgotten, the source stands -/
def lawD (n : Nat) : Ds := none :: some .src :: List.replicate n none
theorem law_start {H1 : Hp} {p c : Addr} {n : Nat} {D : Ends} {s : Dts} {v0 : Option V} (src : Src H1 p c) (hs : s { nx := fun _ => False, rt := fun dv => dv = .d (.bool true) } (lawD n)) (hD : ∀ H', D.rt (.bl true) H') :
    liftS ⟨K, H1, fun _ => False, some (p, c)⟩ s D (v0 :: some (.ref p) :: List.replicate n none) H1 := by
  have ok : Ok (some (p, c)) (fun _ => False) H1 := ⟨fun _ h => h.elim, fun _ h => h.elim, fun q d e => by cases e; exact src⟩
  have at_ : ∀ {i : Nat} {dv : DV}, (lawD n)[i]? = some (some dv) → i = 1 ∧ dv = .src := fun {i dv} e => by
    unfold lawD at e
    match i with
    | 0 => simp at e
    | 1 => simp at e; exact ⟨rfl, e.symm⟩
    | i + 2 =>
      simp only [List.getElem?_cons_succ] at e
      rw [List.getElem?_replicate] at e
      split at e <;> simp at e
  refine ⟨lawD n, fun _ => False, _, ⟨by simp [lawD], fun i dv e => ?_, fun i j x y a e1 e2 m1 m2 _ _ => ?_, Gr.refl ok⟩, hs, ⟨fun _ _ _ _ q _ _ => q.elim, fun _ _ _ _ q _ _ => q.elim, fun _ _ _ _ q _ _ => q.elim, fun dv v F' H' q _ _ r _ => ?_⟩⟩
  · obtain ⟨rfl, rfl⟩ := at_ e
    exact ⟨.ref p, rfl, ⟨p, c, rfl, rfl⟩, rfl, fun m => by cases m⟩
  · obtain ⟨_, rfl⟩ := at_ e1
    cases m1
  · have q : dv = .d (.bool true) := q
    subst q
    rw [rep_bl r]
    exact hD H'
theorem law_rest {X : Cx} {e : List Stmt} {s : Dts} (h : ∀ (H0 : Hp) (F0 : Addr → Prop) (S : Option (Addr × Addr)), DSs ⟨K, H0, F0, S⟩ X e s) : PSs X e (fun D σ H => ∃ (H0 : Hp) (F0 : Addr → Prop) (S : Option (Addr × Addr)), liftS ⟨K, H0, F0, S⟩ s D σ H) :=
  ⟨fun pins s σ H D I ⟨H0, F0, S, q⟩ => (h H0 F0 S).ps.run pins s σ H D I q⟩
end
end Dl
namespace Dl
open PySem L2 Gk PyProof.Rows
/-! readings: loops and comprehensions over typed items -/
section
variable {α : Type}
theorem lcT {items : List PyData} {G : Dtg} {t : Dtt} {e : Dte} {vs : List Nat} {ρ : Ds} {Q : List PyData → Prop} (enc : α → PyData) (xs : List α) (c : α → Bool) (f : α → PyData) (hi : items = xs.map enc) (hz : xs.length ≤ sizeLine)
    (h : ∀ x, x ∈ xs → ∀ (Qy : PyData → Prop) (Qn : Prop), (c x = true → Qy (f x)) → (c x = false → Qn) → G (enc x) (wipeS ρ vs) fun ρ2 => t ρ2 fun b => (b = true → e ρ2 fun y => stoK y Qy) ∧ (b = false → Qn))
    (q : Q ((xs.filter c).map f)) :
    items.length ≤ sizeLine ∧ ∃ Pv : Nat → List PyData → Prop, Pv 0 [] ∧ (∀ i x acc, items[i]? = some x → Pv i acc → G x (wipeS ρ vs) fun ρ2 => t ρ2 fun b => (b = true → e ρ2 fun y => stoK y fun z => Pv (i + 1) (acc ++ [z])) ∧ (b = false → Pv (i + 1) acc)) ∧ ∀ acc, Pv items.length acc → Q acc := by
  subst hi
  refine ⟨by rw [List.length_map]; exact hz, fun i acc => acc = ((xs.take i).filter c).map f, rfl, fun i x acc hx ha => ?_, fun acc ha => ?_⟩
  · subst ha
    rw [List.getElem?_map] at hx
    cases ex : xs[i]? with
    | none => rw [ex] at hx; cases hx
    | some y =>
      rw [ex] at hx
      cases hx
      refine h y (List.mem_of_getElem? ex) _ _ (fun hc => ?_) fun hc => ?_
      · show _ = ((xs.take (i + 1)).filter c).map f
        rw [List.take_add_one, ex, List.filter_append, List.map_append]
        simp [hc]
      · show _ = ((xs.take (i + 1)).filter c).map f
        rw [List.take_add_one, ex, List.filter_append, List.map_append]
        simp [hc]
  · subst ha
    rw [List.length_map, List.take_length]
    exact q
/-- no test -/
theorem lcM {items : List PyData} {G : Dtg} {e : Dte} {vs : List Nat} {ρ : Ds} {Q : List PyData → Prop} (enc : α → PyData) (xs : List α) (f : α → PyData) (hi : items = xs.map enc) (hz : xs.length ≤ sizeLine)
    (h : ∀ x, x ∈ xs → ∀ (Qy : PyData → Prop), Qy (f x) → G (enc x) (wipeS ρ vs) fun ρ2 => e ρ2 fun y => stoK y Qy) (q : Q (xs.map f)) (mono : ∀ x (Q1 Q2 : Ds → Prop), (∀ ρ, Q1 ρ → Q2 ρ) → G x (wipeS ρ vs) Q1 → G x (wipeS ρ vs) Q2) :
    items.length ≤ sizeLine ∧ ∃ Pv : Nat → List PyData → Prop, Pv 0 [] ∧ (∀ i x acc, items[i]? = some x → Pv i acc → G x (wipeS ρ vs) fun ρ2 => dYes ρ2 fun b => (b = true → e ρ2 fun y => stoK y fun z => Pv (i + 1) (acc ++ [z])) ∧ (b = false → Pv (i + 1) acc)) ∧ ∀ acc, Pv items.length acc → Q acc := by
  refine lcT enc xs (fun _ => true) f hi hz (fun x hx Qy Qn h1 _ => ?_) (by rw [List.filter_eq_self.mpr fun _ _ => rfl]; exact q)
  exact mono _ _ _ (fun ρ2 q2 => ⟨fun _ => q2, fun e => nomatch e⟩) (h x hx Qy (h1 rfl))
theorem mono_gN {i : Nat} {ρ : Ds} : ∀ (x : PyData) (Q1 Q2 : Ds → Prop), (∀ ρ, Q1 ρ → Q2 ρ) → gN i x ρ Q1 → gN i x ρ Q2 := fun x Q1 Q2 h q => h _ q
theorem mono_g2 {i j : Nat} {ρ : Ds} : ∀ (x : PyData) (Q1 Q2 : Ds → Prop), (∀ ρ, Q1 ρ → Q2 ρ) → gT (gC (gN i) (gC (gN j) gE)) x ρ Q1 → gT (gC (gN i) (gC (gN j) gE)) x ρ Q2
  | .tuple [_, _], _, _, h, q => h _ q
  | .tuple [], _, _, _, q => q
  | .tuple [_], _, _, _, q => q
  | .tuple (_ :: _ :: _ :: _), _, _, _, q => q
  | .none, _, _, _, q => q
  | .bool _, _, _, _, q => q
  | .int _, _, _, _, q => q
  | .str _, _, _, _, q => q
  | .list _, _, _, _, q => q
  | .dict _, _, _, _, q => q
/-- a for, by what is done -/
theorem forT {fz : Bool} {items : List PyData} {G : Dtg} {s : Dts} {ρ : Ds} {D : Dn} (enc : α → PyData) (xs : List α) (hz : fz = true) (hi : items = xs.map enc) (Pv : List α → Ds → Prop) (h0 : Pv [] ρ)
    (h : ∀ pre x post ρ', xs = pre ++ x :: post → Pv pre ρ' → G (enc x) ρ' fun ρ2 => s { D with nx := Pv (pre ++ [x]), ct := Pv (pre ++ [x]), bk := D.nx } ρ2) (hd : ∀ ρ', Pv xs ρ' → D.nx ρ') :
    fz = true ∧ ∃ Pv : Nat → Ds → Prop, Pv 0 ρ ∧ (∀ i x ρ', items[i]? = some x → Pv i ρ' → G x ρ' fun ρ2 => s { D with nx := Pv (i + 1), ct := Pv (i + 1), bk := D.nx } ρ2) ∧ ∀ ρ', Pv items.length ρ' → D.nx ρ' := by
  subst hi
  refine ⟨hz, fun i ρ' => Pv (xs.take i) ρ', h0, fun i x ρ' hx p => ?_, fun ρ' p => hd ρ' (by rw [List.length_map, List.take_length] at p; exact p)⟩
  rw [List.getElem?_map] at hx
  cases ex : xs[i]? with
  | none => rw [ex] at hx; cases hx
  | some y =>
    rw [ex] at hx
    cases hx
    have il : i < xs.length := (List.getElem?_eq_some_iff.mp ex).1
    have e1 : xs.take (i + 1) = xs.take i ++ [y] := by rw [List.take_add_one, ex]; rfl
    have e2 : xs = xs.take i ++ y :: xs.drop (i + 1) := by
      have h1 := (List.take_append_drop (i + 1) xs).symm
      rw [e1, List.append_assoc] at h1
      exact h1
    show G (enc y) ρ' fun ρ2 => s { D with nx := Pv (xs.take (i + 1)), ct := Pv (xs.take (i + 1)), bk := D.nx } ρ2
    rw [e1]
    exact h (xs.take i) y (xs.drop (i + 1)) ρ' e2 p
end
theorem rgD_map (lo : Int) (n : Nat) : rgD lo n = (List.range n).map fun (i : Nat) => PyData.int (lo + (i : Int)) := rfl
theorem rgD0 (n : Nat) : rgD 0 n = (List.range n).map fun (i : Nat) => PyData.int (i : Int) := by
  unfold rgD
  exact List.map_congr_left fun i _ => by rw [Int.zero_add]
theorem enD_map {α : Type} (enc : α → PyData) : ∀ (k : Nat) (xs : List α), enD k (xs.map enc) = (xs.zipIdx k).map fun p => .tuple [.int (p.2 : Int), enc p.1]
  | _, [] => rfl
  | k, x :: r => by rw [List.map_cons, enD, enD_map enc (k + 1) r]; rfl
theorem ziD_map {α β : Type} (enc : α → PyData) (enc' : β → PyData) : ∀ (xs : List α) (ys : List β), ziD (xs.map enc) (ys.map enc') = (xs.zip ys).map fun p => .tuple [enc p.1, enc' p.2]
  | [], _ => by simp [ziD]
  | _ :: _, [] => by simp [ziD]
  | x :: xs, y :: ys => by rw [List.map_cons, List.map_cons, ziD, ziD_map enc enc' xs ys]; rfl
/-- while, by an invariant and a measure -/
theorem whileM {c : Dtt} {s : Dts} {D : Dn} {ρ : Ds} (Pv : Ds → Prop) (μ : Ds → Nat) (h0 : Pv ρ)
    (hs : ∀ ρ, Pv ρ → c ρ fun b => (b = true → s { D with nx := fun ρ' => Pv ρ' ∧ μ ρ' < μ ρ, ct := fun ρ' => Pv ρ' ∧ μ ρ' < μ ρ, bk := D.nx } ρ) ∧ (b = false → D.nx ρ))
    (mono : ∀ (Q1 Q2 : Bool → Prop) ρ, (∀ b, Q1 b → Q2 b) → c ρ Q1 → c ρ Q2) : dWhile c s D ρ := by
  refine ⟨fun m ρ => m = μ ρ ∧ Pv ρ, ⟨_, rfl, h0⟩, ?_⟩
  rintro m ρ ⟨rfl, p⟩
  refine mono _ _ ρ (fun b q => ⟨fun e => ⟨_, fun ρ' ⟨p', l⟩ => ⟨_, l, rfl, p'⟩, q.1 e⟩, q.2⟩) (hs ρ p)
/-! data of whole numbers -/
def tN (w : List Nat) : PyData := .tuple (w.map fun (a : Nat) => PyData.int (a : Int))
theorem tN_snoc (w : List Nat) (y : Nat) : tN (w ++ [y]) = .tuple (w.map (fun (a : Nat) => PyData.int (a : Int)) ++ [.int (y : Int)]) := by unfold tN; rw [List.map_append]; rfl
def fN (ws : List (List Nat)) : PyData := .tuple (ws.map tN)
def lN (w : List Nat) : List PyData := w.map fun (a : Nat) => PyData.int (a : Int)
theorem eqvAll_lN : ∀ xs ys : List Nat, PyData.eqvAll (xs.map fun (a : Nat) => PyData.int (a : Int)) (ys.map fun (a : Nat) => PyData.int (a : Int)) = decide (xs = ys)
  | [], [] => by simp [PyData.eqvAll]
  | [], _ :: _ => by simp [PyData.eqvAll]
  | _ :: _, [] => by simp [PyData.eqvAll]
  | x :: xs, y :: ys => by
    rw [List.map_cons, List.map_cons, PyData.eqvAll, eqvAll_lN xs ys]
    have e : PyData.eqv (.int (x : Int)) (.int (y : Int)) = decide (x = y) := by
      simp only [PyData.eqv]
      rw [Bool.eq_iff_iff, beq_iff_eq, decide_eq_true_eq]; omega
    rw [e, ← Bool.decide_and]
    exact decide_eq_decide.mpr (by rw [List.cons.injEq])
theorem eqv_tN (xs ys : List Nat) : PyData.eqv (tN xs) (tN ys) = decide (xs = ys) := by
  unfold tN
  rw [PyData.eqv, eqvAll_lN]
theorem eqvAll_map {α : Type} [DecidableEq α] (enc : α → PyData) (h : ∀ a b, PyData.eqv (enc a) (enc b) = decide (a = b)) : ∀ xs ys : List α, PyData.eqvAll (xs.map enc) (ys.map enc) = decide (xs = ys)
  | [], [] => by simp [PyData.eqvAll]
  | [], _ :: _ => by simp [PyData.eqvAll]
  | _ :: _, [] => by simp [PyData.eqvAll]
  | x :: xs, y :: ys => by
    rw [List.map_cons, List.map_cons, PyData.eqvAll, eqvAll_map enc h xs ys, h, ← Bool.decide_and]
    exact decide_eq_decide.mpr (by rw [List.cons.injEq])
theorem eqv_fN (xs ys : List (List Nat)) : PyData.eqv (fN xs) (fN ys) = decide (xs = ys) := by
  unfold fN
  rw [PyData.eqv, eqvAll_map tN eqv_tN]
theorem depthAll_le {k : Nat} : ∀ {ds : List PyData}, (∀ d ∈ ds, d.depth ≤ k) → PyData.depthAll ds ≤ k
  | [], _ => by rw [PyData.depthAll]; exact Nat.zero_le _
  | d :: ds, h => by rw [PyData.depthAll]; exact Nat.max_le.mpr ⟨h d (by simp), depthAll_le fun x hx => h x (by simp [hx])⟩
theorem depth_tN (w : List Nat) : (tN w).depth ≤ 1 := by
  unfold tN
  rw [PyData.depth]
  have : PyData.depthAll (w.map fun (a : Nat) => PyData.int (a : Int)) ≤ 0 := depthAll_le fun d hd => by
    obtain ⟨a, _, rfl⟩ := List.mem_map.mp hd
    rw [PyData.depth]; exact Nat.le_refl _
  omega
theorem depth_fN (w : List (List Nat)) : (fN w).depth ≤ 2 := by
  unfold fN
  rw [PyData.depth]
  have : PyData.depthAll (w.map tN) ≤ 1 := depthAll_le fun d hd => by
    obtain ⟨a, _, rfl⟩ := List.mem_map.mp hd
    exact depth_tN a
  omega
theorem any_nat (xs : List Nat) (x : Nat) : ((xs.map fun (a : Nat) => PyData.int (a : Int)).any fun z => PyData.eqv z (.int (x : Int))) = decide (x ∈ xs) := by
  rw [List.any_map, Bool.eq_iff_iff, List.any_eq_true, decide_eq_true_eq]
  constructor
  · rintro ⟨a, ha, h⟩
    have h : PyData.eqv (.int (a : Int)) (.int (x : Int)) = true := h
    simp only [PyData.eqv, beq_iff_eq] at h
    have : a = x := by omega
    rw [← this]; exact ha
  · intro h
    refine ⟨x, h, ?_⟩
    show PyData.eqv (.int (x : Int)) (.int (x : Int)) = true
    simp only [PyData.eqv, beq_self_eq_true]
theorem any_tN (xs : List (List Nat)) (x : List Nat) : ((xs.map tN).any fun z => PyData.eqv z (tN x)) = decide (x ∈ xs) := by
  rw [List.any_map, Bool.eq_iff_iff, List.any_eq_true, decide_eq_true_eq]
  constructor
  · rintro ⟨a, ha, h⟩
    have h : PyData.eqv (tN a) (tN x) = true := h
    rw [eqv_tN, decide_eq_true_eq] at h
    rw [← h]; exact ha
  · intro h
    refine ⟨x, h, ?_⟩
    show PyData.eqv (tN x) (tN x) = true
    rw [eqv_tN, decide_eq_true_eq]
theorem ints_nat (w : List Nat) : (w.map fun (a : Nat) => PyData.int (a : Int)) = (w.map fun (a : Nat) => (a : Int)).map PyData.int := by rw [List.map_map]; rfl
theorem sum_nat (w : List Nat) : (w.map fun (a : Nat) => (a : Int)).sum = (w.sum : Int) := by
  induction w with
  | nil => rfl
  | cons x w ih => rw [List.map_cons, List.sum_cons, List.sum_cons, ih]; omega
/-! in order, typed -/
def srtE {α : Type} (enc : α → PyData) (xs : List α) : List α := xs.mergeSort fun a b => PySem.W.dataLe false id (enc a) (enc b)
theorem srt_enc {α : Type} (enc : α → PyData) (xs : List α) : srt (xs.map enc) = (srtE enc xs).map enc := by
  unfold srt srtE
  exact (List.map_mergeSort (f := enc) (r := fun a b => PySem.W.dataLe false id (enc a) (enc b)) (s := PySem.W.dataLe false id) fun a _ b _ => rfl).symm
theorem srtE_mem {α : Type} {enc : α → PyData} {xs : List α} {a : α} : a ∈ srtE enc xs ↔ a ∈ xs := List.mem_mergeSort
theorem srtE_len {α : Type} (enc : α → PyData) (xs : List α) : (srtE enc xs).length = xs.length := List.length_mergeSort _
theorem srtE_perm {α : Type} (enc : α → PyData) (xs : List α) : (srtE enc xs).Perm xs := List.mergeSort_perm _ _
theorem alike_tN (xs ys : List Nat) : PySem.W.alike (tN xs) (tN ys) = true := by
  unfold tN
  rw [ints_nat, ints_nat, PySem.W.alike]
  exact PySem.W.alike_ints _ _
theorem alike_fN (xs ys : List (List Nat)) : PySem.W.alike (fN xs) (fN ys) = true := by
  unfold fN
  rw [PySem.W.alike]
  exact alikeAll_of fun x hx y hy => by
    obtain ⟨a, _, rfl⟩ := List.mem_map.mp hx
    obtain ⟨b, _, rfl⟩ := List.mem_map.mp hy
    exact alike_tN a b
theorem sortD_tN {xs : List (List Nat)} {x : DV} {Q : DV → Prop} (hx : x.items = some (xs.map tN)) (hne : ∀ a ∈ xs, a ≠ []) (q : Q (.l .mine ((srtE tN xs).map tN))) : sortD [x] Q := by
  refine ⟨_, hx, fun d hd d' hd' => ?_, .inl fun d hd => ?_, fun d hd => ?_, by rw [srt_enc]; exact q⟩
  · obtain ⟨a, _, rfl⟩ := List.mem_map.mp hd
    obtain ⟨b, _, rfl⟩ := List.mem_map.mp hd'
    exact alike_tN a b
  · obtain ⟨a, ha, rfl⟩ := List.mem_map.mp hd
    cases a with
    | nil => exact absurd rfl (hne _ ha)
    | cons y r => exact ⟨_, _, rfl⟩
  · obtain ⟨a, _, rfl⟩ := List.mem_map.mp hd
    exact Nat.le_trans (depth_tN a) (by decide)
theorem sortD_fN {xs : List (List (List Nat))} {x : DV} {Q : DV → Prop} (hx : x.items = some (xs.map fN)) (hne : ∀ a ∈ xs, a ≠ []) (q : Q (.l .mine ((srtE fN xs).map fN))) : sortD [x] Q := by
  refine ⟨_, hx, fun d hd d' hd' => ?_, .inl fun d hd => ?_, fun d hd => ?_, by rw [srt_enc]; exact q⟩
  · obtain ⟨a, _, rfl⟩ := List.mem_map.mp hd
    obtain ⟨b, _, rfl⟩ := List.mem_map.mp hd'
    exact alike_fN a b
  · obtain ⟨a, ha, rfl⟩ := List.mem_map.mp hd
    cases a with
    | nil => exact absurd rfl (hne _ ha)
    | cons y r => exact ⟨_, _, rfl⟩
  · obtain ⟨a, _, rfl⟩ := List.mem_map.mp hd
    exact Nat.le_trans (depth_fN a) (by decide)
/-- shown -/
theorem sm_all {ds : List PyData} {k n : Nat} (h : ∀ d ∈ ds, Sm d k n) : SmAll ds k ((n + 2) * ds.length) := by
  induction ds with
  | nil => exact ⟨sm_nil.s, Nat.le_trans sm_nil.dp (Nat.zero_le _), Nat.le_trans sm_nil.w (Nat.zero_le _), sm_nil.l⟩
  | cons d ds ih =>
    have a := sm_cons (h d (by simp)) (ih fun x hx => h x (by simp [hx]))
    refine ⟨a.s, Nat.le_trans a.dp (by omega), Nat.le_trans a.w ?_, a.l⟩
    rw [List.length_cons, Nat.mul_succ]; omega
theorem sm_tN {w : List Nat} {m : Nat} (h : ∀ x ∈ w, x < 2 ^ 64) (hl : w.length ≤ m) : Sm (tN w) 2 (68 * m + 3) := by
  have a := sm_all (ds := w.map fun (a : Nat) => PyData.int (a : Int)) (k := 1) (n := 66) fun d hd => by
    obtain ⟨x, hx, rfl⟩ := List.mem_map.mp hd
    exact sm_int (by have := h x hx; omega)
  have b := sm_tup a
  refine ⟨b.s, b.dp, Nat.le_trans b.w ?_, b.l⟩
  rw [List.length_map]
  have := Nat.mul_le_mul_left 68 hl
  omega
theorem sm_maps {α : Type} {enc : α → PyData} {xs : List α} {k n m : Nat} (h : ∀ a ∈ xs, Sm (enc a) k n) (hl : xs.length ≤ m) : SmAll (xs.map enc) k ((n + 2) * m) := by
  have a := sm_all (ds := xs.map enc) (k := k) (n := n) fun d hd => by
    obtain ⟨x, hx, rfl⟩ := List.mem_map.mp hd
    exact h x hx
  refine ⟨a.s, a.dp, Nat.le_trans a.w ?_, a.l⟩
  rw [List.length_map]
  exact Nat.mul_le_mul_left _ hl
theorem repr_go {x : DV} {d : PyData} {k n : Nat} {Q : DV → Prop} (e : x.dat = some d) (h : Sm d k n) (hk : k ≤ 60) (hn : n ≤ 16000000) (q : Q (.d (.str d.shown))) : reprD [x] Q :=
  ⟨d, e, (h.rp hk hn).1, (h.rp hk hn).2.1, (h.rp hk hn).2.2, q⟩
/-- a thing or None -/
def oD {α : Type} (enc : α → PyData) : Option α → PyData
  | none => .none
  | some a => enc a
end Dl
namespace Dl
open PySem L2 Gk PyProof.Rows
section
variable {A : Anc} {X : Cx} {stm : Stmt} {e a b : Expr} {de da db dc : Dte} {pos : Pos}
/-- a, b = x, y where a name is another block's, too: a pair is made -/
theorem ds_parT {K : PySem.W.Frag} {i j : Nat} (hps : PS X stm (tAsg (tTup (tCons (lift A da) (tCons (lift A db) tNil))) (gTup K 2 (gCons (gName i) (gCons (gName j) gNil))))) : DS A X stm (dPar i j da db) :=
  ⟨psImp hps fun D σ H ⟨ρ, F, E, rel, h, c⟩ => ⟨ρ, F, _, rel, h, fun x v F1 H1 q g r f => ⟨ρ, F1, _, rel.grow g, q, fun y w F2 H2 q2 g2 r2 f2 => by
    refine ⟨by show 2 ≤ sizeLine; decide, fun p hp => ?_⟩
    split at q2
    · rename_i x' y' e1 e2
      obtain ⟨rfl, cx⟩ := slot_eq e1
      obtain ⟨rfl, cy⟩ := slot_eq e2
      have r' := two_set rel g g2 r f r2 f2 i j cx cy
      have g3 : Gr A.S F2 H2 F2 (upd H2 p (.tup [v, w])) := Gr.newO g2.ok hp
      exact ⟨p, [v, w], rfl, SqT.of upd_same, rfl, v, [w], rfl, w, [], rfl, rfl, c.nx _ F2 _ _ q2 (r'.grow g3) (((g.trans g2).trans g3).stg rel.ok)⟩
    · exact q2.elim⟩⟩⟩
theorem ds_parT3 {K : PySem.W.Frag} {i j l : Nat} (hps : PS X stm (tAsg (tTup (tCons (lift A da) (tCons (lift A db) (tCons (lift A dc) tNil)))) (gTup K 3 (gCons (gName i) (gCons (gName j) (gCons (gName l) gNil)))))) : DS A X stm (dPar3 i j l da db dc) :=
  ⟨psImp hps fun D σ H ⟨ρ, F, E, rel, h, c⟩ => ⟨ρ, F, _, rel, h, fun x v F1 H1 q g r f => ⟨ρ, F1, _, rel.grow g, q, fun y w F2 H2 q2 g2 r2 f2 => ⟨ρ, F2, _, (rel.grow g).grow g2, q2, fun z u F3 H3 q3 g3 r3 f3 => by
    refine ⟨by show 3 ≤ sizeLine; decide, fun p hp => ?_⟩
    split at q3
    · rename_i x' y' z' e1 e2 e3
      obtain ⟨rfl, cx⟩ := slot_eq e1
      obtain ⟨rfl, cy⟩ := slot_eq e2
      obtain ⟨rfl, cz⟩ := slot_eq e3
      have r' := (two_set rel g g2 r f r2 f2 i j cx cy).set g3 l r3 f3 cz
      have g4 : Gr A.S F3 H3 F3 (upd H3 p (.tup [v, w, u])) := Gr.newO g3.ok hp
      exact ⟨p, [v, w, u], rfl, SqT.of upd_same, rfl, v, [w, u], rfl, w, [u], rfl, u, [], rfl, rfl, c.nx _ F3 _ _ q3 (r'.grow g4) ((((g.trans g2).trans g3).trans g4).stg rel.ok)⟩
    · exact q3.elim⟩⟩⟩⟩
/-- list(range(..)) -/
def dLrg1 (da : Dte) : Dte := fun ρ Q => da ρ fun x => asI x fun n => RgOk 0 n ∧ Q (.l .mine (rgD 0 n.toNat))
def dLrg2 (da db : Dte) : Dte := fun ρ Q => da ρ fun x => db ρ fun y => asI x fun i => asI y fun j => RgOk i j ∧ Q (.l .mine (rgD i (j - i).toNat))
theorem asI_rep {H0 : Hp} {S : Option (Addr × Addr)} {F : Addr → Prop} {H : Hp} {x : DV} {v : V} {Q : Int → Prop} (h : asI x Q) (r : Rep H0 S F H x v) : ∃ i, v = .int i ∧ Q i := by
  unfold asI at h
  split at h
  · exact ⟨_, rep_int r, h⟩
  · exact h.elim
theorem rgV_rep {F : Addr → Prop} {H : Hp} (i j : Int) : RpA F H (rgV i j) (rgD i (j - i).toNat) := by
  have e1 : rgV i j = ((List.range (j - i).toNat).map fun (k : Nat) => i + (k : Int)).map V.int := by unfold rgV; rw [List.map_map]; rfl
  have e2 : rgD i (j - i).toNat = ((List.range (j - i).toNat).map fun (k : Nat) => i + (k : Int)).map PyData.int := by unfold rgD; rw [List.map_map]; rfl
  rw [e1, e2]
  exact RpA.of_ints _
theorem de_lrg1 {p q q2 : Pos} (hl : X.mg "list" = none) (hr : X.mg "range" = none) (ha : DE A X a da) (hc : X.calm = true := by rfl) (g1 : Gl X "list" := by rfl) (g2 : Gl X "range" := by rfl)
    (na : starEach [a] X.env = (false, eval a X.env) :: starEach [] X.env := by rfl) (nb : starEach [.Call (.Name "range" p) [a] [] pos] X.env = (false, eval (.Call (.Name "range" p) [a] [] pos) X.env) :: starEach [] X.env := by rfl) : DE A X (.Call (.Name "list" q) [.Call (.Name "range" p) [a] [] pos] [] q2) (dLrg1 da) :=
  ⟨peImp (pe_listRg hc g1 hl (prg_1 g2 hr ha.pe na) nb) fun σ H R ⟨ρ, F, Q, rel, h, k⟩ => ⟨ρ, F, _, rel, h, fun x v F1 H1 q g r f => by
    obtain ⟨n, e, ok, q⟩ := asI_rep q r
    refine ⟨n, e, ok, fun p hp => ?_⟩
    have rr := rgV_rep (F := F1) (H := H1) 0 n
    rw [Int.sub_zero] at rr
    have nl := new_lst (H0 := A.H0) (S := A.S) g.ok hp rr
    exact k _ _ _ _ q (g.trans (Gr.newO g.ok hp)) nl ((fresh_ref hp).back g nl)⟩⟩
theorem de_lrg2 {p q q2 : Pos} (hl : X.mg "list" = none) (hr : X.mg "range" = none) (ha : DE A X a da) (hb : DE A X b db) (hc : X.calm = true := by rfl) (g1 : Gl X "list" := by rfl) (g2 : Gl X "range" := by rfl)
    (na : starEach [a, b] X.env = (false, eval a X.env) :: starEach [b] X.env := by rfl) (na2 : starEach [b] X.env = (false, eval b X.env) :: starEach [] X.env := by rfl) (hp : (backTo pos (starEach [b] X.env)).any (·.1) = false := by rfl)
    (nb : starEach [.Call (.Name "range" p) [a, b] [] pos] X.env = (false, eval (.Call (.Name "range" p) [a, b] [] pos) X.env) :: starEach [] X.env := by rfl) : DE A X (.Call (.Name "list" q) [.Call (.Name "range" p) [a, b] [] pos] [] q2) (dLrg2 da db) :=
  ⟨peImp (pe_listRg hc g1 hl (prg_2 g2 hr ha.pe hb.pe na na2 hp) nb) fun σ H R ⟨ρ, F, Q, rel, h, k⟩ => ⟨ρ, F, _, rel, h, fun x v F1 H1 q g r f => ⟨ρ, F1, _, rel.grow g, q, fun y w F2 H2 q2 g2 r2 f2 => by
    obtain ⟨i, e, q3⟩ := asI_rep q2 (r.grow g.ok g2)
    obtain ⟨j, e', ok, q4⟩ := asI_rep q3 r2
    refine ⟨i, j, e, e', ok, fun p hp => ?_⟩
    have nl := new_lst (H0 := A.H0) (S := A.S) g2.ok hp (rgV_rep i j)
    exact k _ _ _ _ q4 ((g.trans g2).trans (Gr.newO g2.ok hp)) nl ((fresh_ref hp).back (g.trans g2) nl)⟩⟩⟩
end
/-! dict of pairs -/
def mergeD (kvs more : List (Key × PyData)) : List (Key × PyData) := more.foldl (fun acc kv => putD acc kv.1 kv.2) kvs
section
variable {A : Anc} {F : Addr → Prop} {H : Hp}
theorem krep_merge : ∀ {ms : List (Key × V)} {mvs : List (Key × PyData)} {ks : List (Key × V)} {kvs : List (Key × PyData)}, KRep F H ks kvs → KRep F H ms mvs → KRep F H (mergeK ks ms) (mergeD kvs mvs)
  | [], [], _, _, h, _ => h
  | [], _ :: _, _, _, _, h => by have := h.1; simp at this
  | _ :: _, [], _, _, _, h => by have := h.1; simp at this
  | p :: ms, q :: mvs, ks, kvs, h, h2 => by
    obtain ⟨e, r, h'⟩ := krep_cons h2
    show KRep F H (mergeK (putK ks p.1 p.2) ms) (mergeD (putD kvs q.1 q.2) mvs)
    rw [e]
    exact krep_merge (krep_put h r) h'
def dictD : Dcr
  | [x], Q => (∃ kvs : List (Key × PyData), x.lst = some (kvs.map fun kv => .tuple [kP kv.1, kv.2]) ∧ Q (.dk .mine (mergeD [] kvs))) ∨
      ∃ kvs : List (List Key × PyData), x.lst = some (kvs.map fun kv => .tuple [tP kv.1, kv.2]) ∧ (kvs.map Prod.fst).Nodup ∧ Q (.dt .mine kvs)
  | _, _ => False
def rDictU (K : PySem.W.Frag) : List V → Hp → VK → Prop := fun xs H Q => (∃ (a : Addr) (ps : List Addr) (kvs : List (Key × V)), xs = [.ref a] ∧ SqL K H a (ps.map V.ref) ∧ Paired (fun p kv => SqT K H p [kV kv.1, kv.2]) ps kvs ∧
    ∀ p, H p = none → Q (.ref p) (upd H p (.dK (mergeK [] kvs)))) ∨ rDictT K xs H Q
theorem cr_dictU {X : Cx} (hc : X.calm = true) (hu : X.A.units + 64 < cLine) : CallR X (.type "dict") (rDictU X.K) := crOr (call_dictP hc) (call_dictT hc hu)
theorem pairsK {K : PySem.W.Frag} : ∀ {vs : List V} {kvs : List (Key × PyData)}, RpA F H vs (kvs.map fun kv => .tuple [kP kv.1, kv.2]) →
    ∃ (ps : List Addr) (ks : List (Key × V)), vs = ps.map V.ref ∧ Paired (fun p kv => SqT K H p [kV kv.1, kv.2]) ps ks ∧ KRep F H ks kvs
  | _, [], h => by cases h; exact ⟨[], [], rfl, .nil, ⟨rfl, .nil⟩⟩
  | _, kv :: kvs, h => by
    cases h with
    | cons a b =>
      obtain ⟨ps, ks, rfl, hp, hk⟩ := pairsK (K := K) b
      cases a with
      | tup f e ra =>
        cases ra with
        | cons r1 r2 =>
          cases r2 with
          | cons r3 r4 =>
            cases r4
            rename_i p v w
            have := rp_kP r1
            subst this
            exact ⟨p :: ps, (kv.1, w) :: ks, rfl, .cons (SqT.of e) hp, krep_mk rfl r3 hk⟩
theorem pairsT {K : PySem.W.Frag} : ∀ {vs : List V} {kvs : List (List Key × PyData)}, RpA F H vs (kvs.map fun kv => .tuple [tP kv.1, kv.2]) →
    ∃ (ps : List Addr) (ks : List (List Key × V)), vs = ps.map V.ref ∧ PairsT K H ps ks ∧ KRep F H ks kvs
  | _, [], h => by cases h; exact ⟨[], [], rfl, .nil, ⟨rfl, .nil⟩⟩
  | _, kv :: kvs, h => by
    cases h with
    | cons a b =>
      obtain ⟨ps, ks, rfl, hp, hk⟩ := pairsT (K := K) b
      cases a with
      | tup f e ra =>
        cases ra with
        | cons r1 r2 =>
          cases r2 with
          | cons r3 r4 =>
            cases r4
            rename_i p v w
            have r1 : Rp F H v (.tuple (kv.1.map kP)) := r1
            cases r1 with
            | tup f2 e2 rk =>
              rename_i q us
              rw [rpa_kP rk] at e2
              exact ⟨p :: ps, (kv.1, w) :: ks, rfl, .cons ⟨q, SqT.of e, e2⟩ hp, krep_mk rfl r3 hk⟩
theorem dictDL : CaL A (rDictU A.K) dictD := by
  refine ⟨fun F H Hs xs vs Q R an rr h k => ?_⟩
  unfold dictD at h
  split at h
  · obtain ⟨v, rfl, rx⟩ := reps1 rr
    rcases h with ⟨kvs, e, q⟩ | ⟨kvs, e, nd, q⟩
    · obtain ⟨a, ws, rfl, h1, h2, h3⟩ := rep_lst e an.ok rx
      obtain ⟨ps, ks, rfl, hp, hk⟩ := pairsK (K := A.K) h3
      refine .inl ⟨a, ps, ks, rfl, SqL.of h1, hp, fun p np => ?_⟩
      have g := Gr.newO an.ok (o := .dK (mergeK [] ks)) np
      have kr := krep_merge (ks := []) (kvs := []) (F := F) (H := H) ⟨rfl, .nil⟩ hk
      exact k _ _ F _ q g ⟨p, _, rfl, upd_same, bad_none an.ok np, kr.stg (g.stg an.ok), fun f => by obtain ⟨o, q⟩ := an.ok.f p f; rw [np] at q; cases q⟩ (fresh_ref np)
    · obtain ⟨a, ws, rfl, h1, h2, h3⟩ := rep_lst e an.ok rx
      obtain ⟨ps, ks, rfl, hp, hk⟩ := pairsT (K := A.K) h3
      refine .inr ⟨a, ps, ks, rfl, SqL.of h1, hp, by rw [hk.1]; exact nd, fun p np => ?_⟩
      have g := Gr.newO an.ok (o := .dT ks) np
      exact k _ _ F _ q g ⟨p, _, rfl, upd_same, bad_none an.ok np, hk.stg (g.stg an.ok), fun f => by obtain ⟨o, q⟩ := an.ok.f p f; rw [np] at q; cases q⟩ (fresh_ref np)
  · exact h.elim
/-- list(d) -/
def lisdD : Dcr
  | [x], Q => match x with
    | .dk _ kvs => Q (.l .mine (kvs.map fun kv => kP kv.1))
    | .dt _ kvs => Q (.l .mine (kvs.map fun kv => tP kv.1))
    | _ => False
  | _, _ => False
def rLisD : List V → Hp → VK → Prop := fun xs H Q => rListD xs H Q ∨ ∃ d kvs, xs = [V.ref d] ∧ Rd H d (.dT kvs) ∧ ∀ p bs, H p = none → IsKeys H kvs bs → Q (.ref p) (upd H p (.lst (bs.map V.ref)))
theorem cr_listU {X : Cx} (hc : X.calm = true) : CallR X (.type "list") rLisD := crOr (call_list_dK hc) (call_list_dT hc)
theorem lisDL : CaL A rLisD lisdD := by
  refine ⟨fun F H Hs xs vs Q R an rr h k => ?_⟩
  unfold lisdD at h
  split at h
  · rename_i x
    obtain ⟨v, rfl, rx⟩ := reps1 rr
    split at h
    · rename_i w kvs
      obtain ⟨a, ks, rfl, e1, e2, e3, e4⟩ := rx
      refine .inl ⟨a, ks, rfl, e1, fun p np => ?_⟩
      have c := rp_keys (F := F) (H := H) (ks.map Prod.fst)
      rw [List.map_map, List.map_map] at c
      have c2 : (ks.map (kP ∘ Prod.fst)) = kvs.map fun kv => kP kv.1 := krep_keys e3 kP
      rw [c2] at c
      exact k _ _ _ _ h (Gr.newO an.ok np) (new_lst an.ok np c) (fresh_ref np)
    · rename_i w kvs
      obtain ⟨a, ks, rfl, e1, e2, e3, e4⟩ := rx
      refine .inr ⟨a, ks, rfl, .inl e1, fun p bs np hb => ?_⟩
      have g := (Gr.refl an.ok).tups (fun b => b ∈ bs) (isKeys_tup hb)
      have c := isKeys_rp (F := fun b => F b ∨ b ∈ bs) hb fun b m => .inr m
      have c2 : (ks.map fun kv => tP kv.1) = kvs.map fun kv => tP kv.1 := krep_keys e3 tP
      rw [c2] at c
      exact k _ _ _ _ h (g.trans (Gr.newO g.ok np)) (new_lst g.ok np c) (fresh_ref np)
    · exact h.elim
  · exact h.elim
end
section
variable {A : Anc} {X : Cx} {o k e : Expr} {td tk tx : Dte} {apos cpos : Pos}
/-- d.get(k, x) -/
def dDget2 (td tk tx : Dte) : Dte := fun ρ Q => td ρ fun x => tk ρ fun y => tx ρ fun z => look x y fun r => match r with
  | some w => Q (.d w)
  | none => match z with
    | .d w => Q (.d w)
    | _ => False
theorem isD_rep {H0 : Hp} {S : Option (Addr × Addr)} {F : Addr → Prop} {H : Hp} {w : Ow} {v : V} {kvs : List (Key × PyData)} (r : Rep H0 S F H (.dk w kvs) v) : ∃ a, v = .ref a ∧ IsD H a := by
  obtain ⟨a, ks, e, h1, _⟩ := r
  exact ⟨a, e, by first | exact .inl ⟨_, .inl h1⟩ | exact ⟨_, .inl h1⟩ | exact .inl ⟨_, h1⟩⟩
end
end Dl
namespace Dl
open PySem L2 Gk PyProof.Rows
section
variable {A : Anc} {X : Cx} {e : Expr} {de : Dte}
/-- a fresh value, held as one that nobody changes any more -/
def dFrzE (de : Dte) : Dte := fun ρ Q => de ρ fun x => stoK x fun z => Q (.d z)
theorem de_frz (h : DE A X e de) : DE A X e (dFrzE de) := ⟨peImp h.pe fun σ H Q ⟨ρ, F, Q', rel, h, k⟩ => ⟨ρ, F, _, rel, h, fun x v F1 H1 q g r f => by
  obtain ⟨z, e, q⟩ := stoK_ok q
  obtain ⟨F2, g2, r2, _⟩ := kept1 g r f e
  exact k (.d z) v F2 H1 q g2 r2 (fun m => nomatch m)⟩⟩
end
section
variable {α β : Type}
/-- items of which only a property is known (picks) -/
theorem lcP {items : List PyData} {G : Dtg} {e : Dte} {vs : List Nat} {ρ : Ds} {Q : List PyData → Prop} (enc : α → PyData) (xs : List α) (encb : β → PyData) (R : β → Prop) (hi : items = xs.map enc) (hz : xs.length ≤ sizeLine)
    (h : ∀ x, x ∈ xs → ∀ (Qy : PyData → Prop), (∀ y, R y → Qy (encb y)) → G (enc x) (wipeS ρ vs) fun ρ2 => e ρ2 fun y => stoK y Qy) (q : ∀ ys : List β, ys.length = xs.length → (∀ y ∈ ys, R y) → Q (ys.map encb)) (mono : ∀ x (Q1 Q2 : Ds → Prop), (∀ ρ, Q1 ρ → Q2 ρ) → G x (wipeS ρ vs) Q1 → G x (wipeS ρ vs) Q2) :
    items.length ≤ sizeLine ∧ ∃ Pv : Nat → List PyData → Prop, Pv 0 [] ∧ (∀ i x acc, items[i]? = some x → Pv i acc → G x (wipeS ρ vs) fun ρ2 => dYes ρ2 fun b => (b = true → e ρ2 fun y => stoK y fun z => Pv (i + 1) (acc ++ [z])) ∧ (b = false → Pv (i + 1) acc)) ∧ ∀ acc, Pv items.length acc → Q acc := by
  subst hi
  refine ⟨by rw [List.length_map]; exact hz, fun i acc => ∃ ys : List β, ys.length = i ∧ (∀ y ∈ ys, R y) ∧ acc = ys.map encb, ⟨[], rfl, (fun y hy => nomatch hy), rfl⟩, fun i x acc hx ⟨ys, h1, h2, h3⟩ => ?_, fun acc ⟨ys, h1, h2, h3⟩ => ?_⟩
  · subst h3
    rw [List.getElem?_map] at hx
    cases ex : xs[i]? with
    | none => rw [ex] at hx; cases hx
    | some y =>
      rw [ex] at hx
      cases hx
      refine mono _ _ _ (fun ρ2 q2 => ⟨fun _ => q2, fun e => nomatch e⟩) (h y (List.mem_of_getElem? ex) _ fun z hz => ⟨ys ++ [z], by rw [List.length_append, h1]; rfl, fun u hu => ?_, by rw [List.map_append]; rfl⟩)
      rcases List.mem_append.mp hu with g | g
      · exact h2 u g
      · rw [List.mem_singleton.mp g]; exact hz
  · subst h3
    rw [List.length_map] at h1
    exact q ys h1 h2
end
end Dl
namespace K47
open PySem L2 Gk Dl Ca
def topS (i : Nat) : Stmt := PySem.Challenge.pw_lotsoflots_k47_whole_words_lines_and_row.main.body.getD i (.Pass ⟨0, 0, 0, 0⟩)
abbrev s_sums_to : Stmt := topS 1
abbrev N_sums_to : List Str := ["many", "found", "a", "b"]
theorem sc_sums_to : FnScope N_sums_to ["many"] (defScope s_sums_to) := ⟨rfl, rfl, rfl, by decide +kernel, rfl, by decide +kernel, by decide +kernel⟩
abbrev Df_sums_to (K : PySem.W.Frag) (mg : Str → Option Value) (a : Addr) (fd : FuncData) : Prop := Df K mg "sums_to" s_sums_to ["many"] a fd
abbrev s_rows_to : Stmt := topS 2
abbrev N_rows_to : List Str := ["length", "many", "found", "a", "d", "i"]
theorem sc_rows_to : FnScope N_rows_to ["length", "many"] (defScope s_rows_to) := ⟨rfl, rfl, rfl, by decide +kernel, rfl, by decide +kernel, by decide +kernel⟩
abbrev Df_rows_to (K : PySem.W.Frag) (mg : Str → Option Value) (a : Addr) (fd : FuncData) : Prop := Df K mg "rows_to" s_rows_to ["length", "many"] a fd
abbrev s_shape_tuples : Stmt := topS 3
abbrev N_shape_tuples : List Str := ["shape", "many"]
theorem sc_shape_tuples : FnScope N_shape_tuples ["shape", "many"] (defScope s_shape_tuples) := ⟨rfl, rfl, rfl, by decide +kernel, rfl, by decide +kernel, by decide +kernel⟩
abbrev Df_shape_tuples (K : PySem.W.Frag) (mg : Str → Option Value) (a : Addr) (fd : FuncData) : Prop := Df K mg "shape_tuples" s_shape_tuples ["shape", "many"] a fd
abbrev s_is_of_one_color : Stmt := topS 4
abbrev N_is_of_one_color : List Str := ["coloring", "numbers", "x"]
theorem sc_is_of_one_color : FnScope N_is_of_one_color ["coloring", "numbers"] (defScope s_is_of_one_color) := ⟨rfl, rfl, rfl, by decide +kernel, rfl, by decide +kernel, by decide +kernel⟩
abbrev Df_is_of_one_color (K : PySem.W.Frag) (mg : Str → Option Value) (a : Addr) (fd : FuncData) : Prop := Df K mg "is_of_one_color" s_is_of_one_color ["coloring", "numbers"] a fd
abbrev s_first_found : Stmt := topS 5
abbrev N_first_found : List Str := ["shape", "coloring", "numbers"]
theorem sc_first_found : FnScope N_first_found ["shape", "coloring"] (defScope s_first_found) := ⟨rfl, rfl, rfl, by decide +kernel, rfl, by decide +kernel, by decide +kernel⟩
abbrev Df_first_found (K : PySem.W.Frag) (mg : Str → Option Value) (a : Addr) (fd : FuncData) : Prop := Df K mg "first_found" s_first_found ["shape", "coloring"] a fd
abbrev s_is_free_of : Stmt := topS 6
abbrev N_is_free_of : List Str := ["shape", "coloring"]
theorem sc_is_free_of : FnScope N_is_free_of ["shape", "coloring"] (defScope s_is_free_of) := ⟨rfl, rfl, rfl, by decide +kernel, rfl, by decide +kernel, by decide +kernel⟩
abbrev Df_is_free_of (K : PySem.W.Frag) (mg : Str → Option Value) (a : Addr) (fd : FuncData) : Prop := Df K mg "is_free_of" s_is_free_of ["shape", "coloring"] a fd
abbrev s_words_of : Stmt := topS 8
abbrev N_words_of : List Str := ["t", "n", "found", "lap", "late", "word", "letter"]
theorem sc_words_of : FnScope N_words_of ["t", "n"] (defScope s_words_of) := ⟨rfl, rfl, rfl, by decide +kernel, rfl, by decide +kernel, by decide +kernel⟩
abbrev Df_words_of (K : PySem.W.Frag) (mg : Str → Option Value) (a : Addr) (fd : FuncData) : Prop := Df K mg "words_of" s_words_of ["t", "n"] a fd
abbrev s_line_of_stars : Stmt := topS 9
abbrev N_line_of_stars : List Str := ["t", "stars", "put", "letter"]
theorem sc_line_of_stars : FnScope N_line_of_stars ["t", "stars"] (defScope s_line_of_stars) := ⟨rfl, rfl, rfl, by decide +kernel, rfl, by decide +kernel, by decide +kernel⟩
abbrev Df_line_of_stars (K : PySem.W.Frag) (mg : Str → Option Value) (a : Addr) (fd : FuncData) : Prop := Df K mg "line_of_stars" s_line_of_stars ["t", "stars"] a fd
abbrev s_lines_of_words : Stmt := topS 10
abbrev N_lines_of_words : List Str := ["t", "n", "stars"]
theorem sc_lines_of_words : FnScope N_lines_of_words ["t", "n"] (defScope s_lines_of_words) := ⟨rfl, rfl, rfl, by decide +kernel, rfl, by decide +kernel, by decide +kernel⟩
abbrev Df_lines_of_words (K : PySem.W.Frag) (mg : Str → Option Value) (a : Addr) (fd : FuncData) : Prop := Df K mg "lines_of_words" s_lines_of_words ["t", "n"] a fd
abbrev s_word_place : Stmt := topS 11
abbrev N_word_place : List Str := ["t", "word", "found", "letter"]
theorem sc_word_place : FnScope N_word_place ["t", "word"] (defScope s_word_place) := ⟨rfl, rfl, rfl, by decide +kernel, rfl, by decide +kernel, by decide +kernel⟩
abbrev Df_word_place (K : PySem.W.Frag) (mg : Str → Option Value) (a : Addr) (fd : FuncData) : Prop := Df K mg "word_place" s_word_place ["t", "word"] a fd
abbrev s_first_line : Stmt := topS 12
abbrev N_first_line : List Str := ["t", "n", "row", "line", "word"]
theorem sc_first_line : FnScope N_first_line ["t", "n", "row"] (defScope s_first_line) := ⟨rfl, rfl, rfl, by decide +kernel, rfl, by decide +kernel, by decide +kernel⟩
abbrev Df_first_line (K : PySem.W.Frag) (mg : Str → Option Value) (a : Addr) (fd : FuncData) : Prop := Df K mg "first_line" s_first_line ["t", "n", "row"] a fd
abbrev s_tally_row : Stmt := topS 13
abbrev N_tally_row : List Str := ["n", "k", "word"]
theorem sc_tally_row : FnScope N_tally_row ["n", "k"] (defScope s_tally_row) := ⟨rfl, rfl, rfl, by decide +kernel, rfl, by decide +kernel, by decide +kernel⟩
abbrev Df_tally_row (K : PySem.W.Frag) (mg : Str → Option Value) (a : Addr) (fd : FuncData) : Prop := Df K mg "tally_row" s_tally_row ["n", "k"] a fd
abbrev s_word_number : Stmt := topS 14
abbrev N_word_number : List Str := ["word"]
theorem sc_word_number : FnScope N_word_number ["word"] (defScope s_word_number) := ⟨rfl, rfl, rfl, by decide +kernel, rfl, by decide +kernel, by decide +kernel⟩
abbrev Df_word_number (K : PySem.W.Frag) (mg : Str → Option Value) (a : Addr) (fd : FuncData) : Prop := Df K mg "word_number" s_word_number ["word"] a fd
abbrev s_line_row : Stmt := topS 15
abbrev N_line_row : List Str := ["line", "word"]
theorem sc_line_row : FnScope N_line_row ["line"] (defScope s_line_row) := ⟨rfl, rfl, rfl, by decide +kernel, rfl, by decide +kernel, by decide +kernel⟩
abbrev Df_line_row (K : PySem.W.Frag) (mg : Str → Option Value) (a : Addr) (fd : FuncData) : Prop := Df K mg "line_row" s_line_row ["line"] a fd
abbrev s_row_colors : Stmt := topS 16
abbrev N_row_colors : List Str := ["t", "n", "coloring", "word"]
theorem sc_row_colors : FnScope N_row_colors ["t", "n", "coloring"] (defScope s_row_colors) := ⟨rfl, rfl, rfl, by decide +kernel, rfl, by decide +kernel, by decide +kernel⟩
abbrev Df_row_colors (K : PySem.W.Frag) (mg : Str → Option Value) (a : Addr) (fd : FuncData) : Prop := Df K mg "row_colors" s_row_colors ["t", "n", "coloring"] a fd
abbrev s__law_open_cells : Stmt := topS 18
abbrev N__law_open_cells : List Str := ["script", "stirred", "cell", "cells"]
theorem sc__law_open_cells : FnScope N__law_open_cells ["script"] (defScope s__law_open_cells) := ⟨rfl, rfl, rfl, by decide +kernel, rfl, by decide +kernel, by decide +kernel⟩
abbrev Df__law_open_cells (K : PySem.W.Frag) (mg : Str → Option Value) (a : Addr) (fd : FuncData) : Prop := Df K mg "_law_open_cells" s__law_open_cells ["script"] a fd
abbrev s__law_pick : Stmt := topS 19
abbrev N__law_pick : List Str := ["source", "most", "cells", "others", "lap", "stirred"]
theorem sc__law_pick : FnScope N__law_pick ["source", "most"] (defScope s__law_pick) := ⟨rfl, rfl, rfl, by decide +kernel, rfl, by decide +kernel, by decide +kernel⟩
abbrev Df__law_pick (K : PySem.W.Frag) (mg : Str → Option Value) (a : Addr) (fd : FuncData) : Prop := Df K mg "_law_pick" s__law_pick ["source", "most"] a fd
abbrev s__law_of : Stmt := topS 20
abbrev N__law_of : List Str := ["source", "some"]
theorem sc__law_of : FnScope N__law_of ["source", "some"] (defScope s__law_of) := ⟨rfl, rfl, rfl, by decide +kernel, rfl, by decide +kernel, by decide +kernel⟩
abbrev Df__law_of (K : PySem.W.Frag) (mg : Str → Option Value) (a : Addr) (fd : FuncData) : Prop := Df K mg "_law_of" s__law_of ["source", "some"] a fd
abbrev s__law_words : Stmt := topS 21
abbrev N__law_words : List Str := ["t", "n", "found", "turn", "late", "word", "x"]
theorem sc__law_words : FnScope N__law_words ["t", "n"] (defScope s__law_words) := ⟨rfl, rfl, rfl, by decide +kernel, rfl, by decide +kernel, by decide +kernel⟩
abbrev Df__law_words (K : PySem.W.Frag) (mg : Str → Option Value) (a : Addr) (fd : FuncData) : Prop := Df K mg "_law_words" s__law_words ["t", "n"] a fd
abbrev s__law_lines : Stmt := topS 22
abbrev N__law_lines : List Str := ["t", "n", "found", "word", "x", "y"]
theorem sc__law_lines : FnScope N__law_lines ["t", "n"] (defScope s__law_lines) := ⟨rfl, rfl, rfl, by decide +kernel, rfl, by decide +kernel, by decide +kernel⟩
abbrev Df__law_lines (K : PySem.W.Frag) (mg : Str → Option Value) (a : Addr) (fd : FuncData) : Prop := Df K mg "_law_lines" s__law_lines ["t", "n"] a fd
abbrev s_law : Stmt := topS 23
abbrev N_law : List Str := ["script", "source", "t", "n", "words", "lines", "places", "top", "low", "turn", "colors", "row", "some", "many", "coloring", "line", "told", "wide", "pairs", "ways", "k", "tally", "one", "stars", "i", "word", "x", "y"]
theorem sc_law : FnScope N_law ["script"] (defScope s_law) := ⟨rfl, rfl, rfl, by decide +kernel, rfl, by decide +kernel, by decide +kernel⟩
abbrev Df_law (K : PySem.W.Frag) (mg : Str → Option Value) (a : Addr) (fd : FuncData) : Prop := Df K mg "law" s_law ["script"] a fd
structure Bl (mg : Str → Option Value) : Prop where
  abs : mg "abs" = none
  all : mg "all" = none
  dict : mg "dict" = none
  enumerate : mg "enumerate" = none
  int : mg "int" = none
  len : mg "len" = none
  list : mg "list" = none
  range : mg "range" = none
  repr : mg "repr" = none
  sorted : mg "sorted" = none
  sum : mg "sum" = none
  tuple : mg "tuple" = none
  zip : mg "zip" = none
/-- the words so far, each with its last letters -/
def wdsPart (t : Nat) (pre : List (List Nat)) : List (List Nat) := pre.flatMap fun w => (List.range t).map fun x => w ++ [x]
theorem pow_small {t n : Nat} (ht : t ≤ 6) (hn : n ≤ 6) : t ^ n ≤ 46656 := by
  have a := Nat.pow_le_pow_left ht n
  have b := Nat.pow_le_pow_right (show 0 < 6 by decide) hn
  have : 6 ^ 6 = 46656 := by decide
  omega
theorem wdsPart_len (t : Nat) (pre : List (List Nat)) : (wdsPart t pre).length = pre.length * t := by
  unfold wdsPart
  rw [List.length_flatMap]
  have e : pre.map (fun w => ((List.range t).map fun x => w ++ [x]).length) = pre.map fun _ => t := List.map_congr_left fun w _ => by rw [List.length_map, List.length_range]
  rw [e, List.map_const', List.sum_replicate_nat]
theorem wdsPart_snoc (t : Nat) (pre : List (List Nat)) (w : List Nat) : wdsPart t (pre ++ [w]) = wdsPart t pre ++ (List.range t).map fun x => w ++ [x] := by unfold wdsPart; simp
section
variable {P : Program} {w : World} {K : PySem.W.Frag} {mg : Str → Option Value} {base : Heap}
def sp__law_open_cells (K : PySem.W.Frag) : Sp := spOpen K
abbrev Ok__law_open_cells (P : Program) (w : World) (K : PySem.W.Frag) (mg : Str → Option Value) (base : Heap) (a : Addr) (fd : FuncData) : Prop := FnOk P w K mg base CX0 1 a fd ["script"] (sp__law_open_cells K)
theorem ok__law_open_cells {a__law_open_cells : Addr} {d__law_open_cells : FuncData} (D__law_open_cells : Df__law_open_cells K mg a__law_open_cells d__law_open_cells) (B : Bl mg) : Ok__law_open_cells P w K mg base a__law_open_cells d__law_open_cells := by
  refine D__law_open_cells.F.ok sc__law_open_cells (fun vs H Q E h => by (repeat obtain ⟨_, h⟩ := h) <;> (subst_vars; rfl)) (fun cdv A outer s H vs Q E hr h => ?_)
  · obtain ⟨a, ns, rfl, hS, hlen, q⟩ := h
    refine ⟨_, (pss_cons (ps_set (i := 1) sc__law_open_cells.nd rfl (.inl rfl) pe_int)
    (pss_cons (ps_for PassesOwn.never rfl (pi_list (pv 0)) (pg_name (i := 2) sc__law_open_cells.nd rfl (.inl rfl))
      (pss_one (ps_set (i := 1) sc__law_open_cells.nd rfl (.inl rfl) (pe_op op_modG (pe_callTy call_int1 (by rfl) B.int (by decide +kernel) (pa_cons (pe_op op_add (pe_op op_add (pe_op op_mulG (pv 1) pe_int) (pe_op op_mulG (pv 2) pe_int)) pe_int) pa_nil)) pe_int))))
    (pss_cons (ps_setLc (i := 3) rfl sc__law_open_cells.nd rfl rfl (sw_true rfl rfl rfl (by decide +kernel)) (own := [("cell", 2)]) (g := (gName 2)) (tt := tYes) (pi_list (pv 0)) (blkOk_by (N := N__law_open_cells) (sc := defScope s__law_open_cells) (by decide +kernel)) (fun _ _ _ _ _ => (pg_name (i := 2) sc__law_open_cells.nd rfl (.inl rfl))) (fun _ _ _ _ _ => pts_nil) (fun _ _ _ _ _ => (pe_callB call_abs (by rfl) B.abs (by decide +kernel) (pa_cons (pv 2) pa_nil))))
    (pss_one (ps_ret (pe_disp (pps_cons pe_str (pe_revL (pv 3)) (pps_cons pe_str pe_int (pps_cons pe_str (pv 1) (pps_cons pe_str pe_int pps_nil)))) (by rfl) (by rfl) (fun z => by cases z) (by decide))))))), ?_⟩
    refine ⟨_, rfl, a, rfl, ⟨_, hS⟩, for_list (K := K) (a := a) (xs := ns.map V.int) (fun i σ H' => ∃ (z : Int) (v v3 : Option V), σ = [some (.ref a), some (.int z), v, v3] ∧ H' = H)
      ⟨11, none, none, rfl, rfl⟩ (fun i σ H' _ ⟨z, v, v3, e1, e2⟩ => by subst e2; exact hS) (fun i x σ H' hi ⟨z, v, v3, e1, e2⟩ => ?_) (fun σ H' ⟨z, v, v3, e1, e2⟩ => ?_)⟩
    · subst e1 e2
      obtain ⟨y, hy⟩ : ∃ y, x = V.int y := by
        rw [List.getElem?_map] at hi
        cases e : ns[i]? with
        | none => rw [e] at hi; cases hi
        | some y => rw [e] at hi; exact ⟨y, (Option.some.inj hi).symm⟩
      subst hy
      refine ⟨_, rfl, _, _, rfl, rfl, mulG_r (n := 2 ^ 64) (by decide), _, rfl, _, _, rfl, rfl, mulG_r (n := 2 ^ 64) (by decide), _, _, rfl, rfl, _, _, rfl, rfl, .inl ⟨_, rfl, _, _, rfl, rfl, (by show (0 : Int) < 2147483629; decide), ?_⟩⟩
      exact ⟨_, _, _, rfl, rfl⟩
    · subst e1 e2
      refine ⟨_, rfl, a, rfl, ⟨_, hS⟩, fun D nD => ?_⟩
      refine lc_it (walk_list (K := K) (a := a) (xs := ns.map V.int)) (fun i H2 => Same H' H2 ∧ H2 D = some (.lst (((ns.map fun n => if n < 0 then -n else n).take i).map V.int))) ⟨same_new nD, upd_same⟩
        (fun i H2 _ ⟨s2, _⟩ => s2.seq hS) (fun i x H2 H3 hi ⟨s2, hD⟩ ⟨e3, hx⟩ => ?_) (fun H2 ⟨s2, hD⟩ => ?_)
      · subst e3
        rw [List.length_map] at hi
        rw [List.getElem?_map, List.getElem?_eq_getElem hi] at hx
        cases hx
        refine ⟨rfl, ?_⟩
        refine lc_yes ?_
        refine ⟨_, rfl, _, rfl, _, hD, ?_, same_mut s2 nD, ?_⟩
        · rw [List.length_map, List.length_take]
          exact Nat.lt_of_le_of_lt (Nat.le_trans (Nat.min_le_left _ _) (show i ≤ 1000 by omega)) (by decide)
        · rw [upd_same, List.take_add_one, List.getElem?_map, List.getElem?_eq_getElem hi, List.map_append]
          rfl
      · rw [List.length_map, List.take_of_length_le (by rw [List.length_map]; exact Nat.le_refl _)] at hD
        refine fun p np => ?_
        have nDp : D ≠ p := ne_of_none hD np
        have s3 : Same H' (upd H2 p (.dK [])) := fun b o e => same_new np b o (s2 b o e)
        refine ⟨_, rfl, D, _, rfl, SqL.of (by rw [upd_ne nDp]; exact hD), fun c nc => ?_⟩
        have ncp : c ≠ p := fun e => by rw [e, upd_same] at nc; cases nc
        have hcp : (upd (upd H2 p (.dK [])) c (.lst ((List.map V.int (ns.map fun n => if n < 0 then -n else n)).reverse))) p = some (.dK []) := by
          rw [upd_ne ncp.symm, upd_same]
        refine ⟨_, rfl, hcp, sd c 1 z 0, rfl, by show (4 : Nat) ≤ 15; decide, ?_⟩
        rw [sd_make]
        have np' : H' p = none := same_back s2 np
        have nc' : H' c = none := same_back s3 nc
        refine q _ p c ?_ np' nc' ⟨(ns.map fun n => if n < 0 then -n else n).reverse, 1, z, 0, upd_same, ?_⟩
        · exact same_mut (same_mut s3 nc') np'
        · rw [upd_ne ncp, upd_same, List.map_reverse]
def sp__law_pick (K : PySem.W.Frag) : Sp := spPick
abbrev Okh__law_pick (P : Program) (w : World) (K : PySem.W.Frag) (mg : Str → Option Value) (base : Heap) (a : Addr) (fd : FuncData) : Prop := FnOk P w K mg base CX0 1 a fd ["source", "most"] (sp__law_pick K)
theorem okh__law_pick {a__law_pick : Addr} {d__law_pick : FuncData} (D__law_pick : Df__law_pick K mg a__law_pick d__law_pick) (B : Bl mg) : Okh__law_pick P w K mg base a__law_pick d__law_pick := by
  refine D__law_pick.F.ok sc__law_pick (fun vs H Q E h => by (repeat obtain ⟨_, h⟩ := h) <;> (subst_vars; rfl)) (fun cdv A outer s H vs Q E hr h => ?_)
  · obtain ⟨p, c, n, rfl, hn, hs, q⟩ := h
    refine ⟨_, (pss_cons (ps_if (pt_cmpR op_lt (pv 1) pe_int (nomark _)) (pss_one (ps_ret pe_int)) pss_nil)
    (pss_cons (ps_set (i := 2) sc__law_pick.nd rfl (.inl rfl) (pe_dget (hu_of hr) (pv 0) pe_str (fun _ _ => rfl)))
    (pss_cons (ps_while PassesOwn.never (PW.pt (pw_and (pt_cmpR op_lt (pe_dget (hu_of hr) (pv 0) pe_str (fun _ _ => rfl)) pe_int (nomark _)) (pw_and1 (pt_cmpR op_gt (pe_callB call_len_seq (by rfl) B.len (by decide +kernel) (pa_cons (pv 2) pa_nil)) pe_int (nomark _)))))
      (pss_one (ps_dput (hu_of hr) (pv 0) pe_str (pe_bm0 PySem.F.plainAttrs_list PySem.F.slot_list_pop PySem.F.type_list_pop mt_pop (pv 2)) rfl)))
    (pss_cons (ps_set (i := 3) sc__law_pick.nd rfl (.inl rfl) (pe_dget (hu_of hr) (pv 0) pe_str (fun _ _ => rfl)))
    (pss_cons (ps_if (pt_cmpR op_gt (pv 3) pe_int (nomark _)) (pss_cons (ps_dput (hu_of hr) (pv 0) pe_str (pe_op op_fdivW (pv 3) (pv 1)) rfl)
      (pss_one (ps_ret (pe_op op_modG (pe_callTy call_int1 (by rfl) B.int (by decide +kernel) (pa_cons (pv 3) pa_nil)) (pv 1))))) pss_nil)
    (pss_cons (ps_dput (hu_of hr) (pv 0) pe_str (pe_op op_add (pe_dget (hu_of hr) (pv 0) pe_str (fun _ _ => rfl)) pe_int) rfl)
    (pss_cons (ps_set (i := 4) sc__law_pick.nd rfl (.inl rfl) (pe_dget (hu_of hr) (pv 0) pe_str (fun _ _ => rfl)))
    (pss_cons (ps_set (i := 5) sc__law_pick.nd rfl (.inl rfl) (pe_op op_modG (pe_callTy call_int1 (by rfl) B.int (by decide +kernel) (pa_cons (pe_op op_add (pe_dget (hu_of hr) (pv 0) pe_str (fun _ _ => rfl)) (pe_op op_mulG (pv 4) pe_int)) pa_nil)) pe_int))
    (pss_cons (ps_set (i := 5) sc__law_pick.nd rfl (.inl rfl) (pe_op op_modG (pe_callTy call_int1 (by rfl) B.int (by decide +kernel) (pa_cons (pe_op op_add (pe_op op_mulG (pv 5) (pv 5)) (pe_op op_mulG (pv 4) pe_int)) pa_nil)) pe_int))
    (pss_one (ps_ret (pe_op op_modG (pe_callTy call_int1 (by rfl) B.int (by decide +kernel) (pa_cons (pe_op op_fdivW (pv 5) pe_int) pa_nil)) (pv 1))))))))))))), ?_⟩
    have npc := hs.ne
    refine ⟨_, rfl, _, _, rfl, rfl, _, rfl, if_dec (fun h1 => ?_) (fun h1 => ?_)⟩
    · exact q H 0 (fun _ _ _ _ e => e) hs (Int.le_refl _) (.inr rfl)
    · obtain ⟨ns, l, m, t, h2, h3⟩ := hs
      refine ⟨_, rfl, p, _, rfl, g_cells h2, ?_⟩
      refine while_go (fun σ H' => ∃ (ns : List Int) (l : Int), σ = [some (.ref p), some (.int n), some (.ref c), none, none, none] ∧ But p c H H' ∧ H' p = some (.dK (sd c l m t)) ∧ H' c = some (.lst (ns.map V.int)))
        (fun _ H' => match H' c with | some (.lst xs) => xs.length | _ => 0) (fun σ H' => ∃ (ns : List Int) (l : Int), σ = [some (.ref p), some (.int n), some (.ref c), none, none, none] ∧ But p c H H' ∧ H' p = some (.dK (sd c l m t)) ∧ H' c = some (.lst (ns.map V.int)))
        ⟨ns, l, rfl, fun _ _ _ _ e => e, h2, h3⟩ (fun σ H' h => ?_) (fun σ H' h => ?_) (fun σ H' Q1 Q2 k1 h => ?_)
      · obtain ⟨ns, l, rfl, b1, h2, h3⟩ := h
        refine ⟨_, rfl, p, _, rfl, g_left h2, _, _, rfl, rfl, _, rfl, if_dec (fun h4 => ?_) (fun h4 => ?_)⟩
        · refine ⟨_, rfl, c, _, rfl, .inl (SqL.of h3), _, _, rfl, rfl, _, rfl, if_dec (fun h5 => ?_) (fun h5 => ?_)⟩
          · rw [List.length_map] at h5
            obtain ⟨ns', z, rfl⟩ : ∃ ns' z, ns = ns' ++ [z] := ⟨ns.dropLast, ns.getLast (by intro e; subst e; simp at h5), (List.dropLast_concat_getLast _).symm⟩
            refine ⟨_, rfl, .inl ⟨rfl, _, SqL.of h3⟩, c, _, .int z, rfl, rfl, h3, by simp, ?_⟩
            have e1 : ((ns' ++ [z]).map V.int).dropLast = ns'.map V.int := by simp
            rw [e1]
            refine ⟨_, rfl, p, _, rfl, p_left (by rw [upd_ne npc]; exact h2) z, ⟨ns', z, rfl, fun b o n1 n2 e => ?_, upd_same, by rw [upd_ne npc.symm, upd_same]⟩, ?_⟩
            · rw [upd_ne n1, upd_ne n2]
              exact b1 b o n1 n2 e
            · rw [upd_ne npc.symm, upd_same, h3]
              simp
          · exact ⟨ns, l, rfl, b1, h2, h3⟩
        · exact ⟨ns, l, rfl, b1, h2, h3⟩
      · obtain ⟨ns, l, rfl, b1, h2, h3⟩ := h
        refine ⟨_, rfl, p, _, rfl, g_left h2, ?_⟩
        refine ⟨_, rfl, _, _, rfl, rfl, _, rfl, if_dec (fun h4 => ?_) (fun h4 => ?_)⟩
        · refine ⟨_, rfl, _, rfl, _, _, rfl, rfl, divG (by omega) (by omega), _, rfl, p, _, rfl, p_left h2 _, ?_⟩
          refine ⟨_, rfl, .inl ⟨_, rfl, _, rfl, _, _, rfl, rfl, by omega, ?_⟩⟩
          refine q _ _ (fun b o n1 n2 e => ?_) ⟨ns, _, _, _, upd_same, by rw [upd_ne npc.symm]; exact h3⟩ (Int.emod_nonneg _ (by omega)) (.inl (Int.emod_lt_of_pos _ (by omega)))
          rw [upd_ne n1]
          exact b1 b o n1 n2 e
        · refine ⟨_, rfl, p, _, rfl, g_turn h2, _, _, rfl, rfl, _, rfl, p, _, rfl, p_turn h2 _, ?_⟩
          have h2' : (upd H' p (.dK (sd c l m (t + 1)))) p = some (.dK (sd c l m (t + 1))) := upd_same
          refine ⟨_, rfl, p, _, rfl, g_turn h2', ?_⟩
          refine ⟨_, rfl, p, _, rfl, g_mixed h2', _, rfl, _, _, rfl, rfl, mulG_r (n := 2 ^ 64) (by decide), _, _, rfl, rfl, .inl ⟨_, rfl, _, _, rfl, rfl, (by show (0 : Int) < 998244353; decide), ?_⟩⟩
          generalize em : (m + (t + 1) * 104729) % 998244353 = z1
          have b1' : 0 ≤ z1 ∧ z1 < 998244353 := by rw [← em]; exact ⟨Int.emod_nonneg _ (by decide), Int.emod_lt_of_pos _ (by decide)⟩
          refine ⟨_, rfl, _, rfl, _, _, rfl, rfl, mulG_r (n := 2 ^ 64) (by omega), _, rfl, _, _, rfl, rfl, mulG_r (n := 2 ^ 64) (by decide), _, _, rfl, rfl, .inl ⟨_, rfl, _, _, rfl, rfl, (by show (0 : Int) < 2147483647; decide), ?_⟩⟩
          refine ⟨_, rfl, _, _, rfl, rfl, divG (by decide) (by decide), .inl ⟨_, rfl, _, rfl, _, _, rfl, rfl, by omega, ?_⟩⟩
          refine q _ _ (fun b o n1 n2 e => ?_) ⟨ns, _, _, _, upd_same, by rw [upd_ne npc.symm]; exact h3⟩ (Int.emod_nonneg _ (by omega)) (.inl (Int.emod_lt_of_pos _ (by omega)))
          rw [upd_ne n1]
          exact b1 b o n1 n2 e
      · obtain ⟨v, e, a, v2, f1, f2, i, j, f3, f4, k3, f5, h⟩ := h
        refine ⟨v, e, a, v2, f1, f2, i, j, f3, f4, k3, f5, ?_⟩
        cases k3 with
        | true =>
          obtain ⟨v3, e3, a3, ys, f6, f7, i3, j3, f8, f9, k4, f10, h⟩ := h
          exact ⟨v3, e3, a3, ys, f6, f7, i3, j3, f8, f9, k4, f10, k1 _ _ h⟩
        | false => exact k1 _ _ h
abbrev Ok__law_pick (P : Program) (w : World) (K : PySem.W.Frag) (mg : Str → Option Value) (base : Heap) (a : Addr) (fd : FuncData) : Prop := FnG P w K mg base 1 a fd ["source", "most"] (spL () dPick)
theorem ok__law_pick {a__law_pick : Addr} {d__law_pick : FuncData} (D__law_pick : Df__law_pick K mg a__law_pick d__law_pick) (B : Bl mg) : Ok__law_pick P w K mg base a__law_pick d__law_pick := pick_d (okh__law_pick D__law_pick  B)
def dsp_words_of : Dsp := fun args Q => ∃ t n : Nat, args = [.d (.int t), .d (.int n)] ∧ t ≤ 6 ∧ n ≤ 6 ∧ Q (.d (fN (wds t n)))
abbrev Ok_words_of (P : Program) (w : World) (K : PySem.W.Frag) (mg : Str → Option Value) (base : Heap) (a : Addr) (fd : FuncData) : Prop := FnG P w K mg base 1 a fd ["t", "n"] (spL () dsp_words_of)
theorem ok_words_of {a_words_of : Addr} {d_words_of : FuncData} (D_words_of : Df_words_of K mg a_words_of d_words_of) (B : Bl mg) : Ok_words_of P w K mg base a_words_of d_words_of := by
  refine dfn D_words_of.F sc_words_of (fun args Q h => by (repeat obtain ⟨_, h⟩ := h) <;> (subst_vars; rfl)) (fun cdv A outer s H E F0 S0 hg hr => ?_)
  refine ⟨_, (dss_cons (ds_set (i := 2) sc_words_of.nd rfl (.inl rfl) (de_lst (dd_cons (de_tup dd_nil) dd_nil)))
    (dss_cons (ds_for (g := (gName 3)) (G := (gN 3)) (vs := [3]) (di_range1 (by rfl) B.range (da_cons (de_v (pv 1)) da_nil)) (pg_name (i := 3) sc_words_of.nd rfl (.inl rfl)) gl_name 
      (dss_cons (ds_set (i := 4) sc_words_of.nd rfl (.inl rfl) (de_lst dd_nil))
      (dss_cons (ds_frz [2] (ds_for (g := (gName 5)) (G := (gN 5)) (vs := [5]) (di_seq (de_v (pv 2))) (pg_name (i := 5) sc_words_of.nd rfl (.inr rfl)) gl_name 
        (dss_one (ds_ext (ps_expr (pe_bm PySem.F.plainAttrs_list PySem.F.slot_list_extend PySem.F.type_list_extend mt_extend (pv 4) (pa_cons (DE.pe (de_lc (own := [("letter", 6)]) (g := (gName 6)) (G := (gN 6)) (t := dYes) sc_words_of.nd (di_range1 (by rfl) B.range (da_cons (de_v (pv 0)) da_nil)) (blkOk_by (N := N_words_of) (sc := defScope s_words_of) (by decide +kernel)) gl_name (fun _ _ _ _ _ => (pg_name (i := 6) sc_words_of.nd rfl (.inl rfl))) (fun _ _ _ _ _ => dts_nil) (fun _ _ _ _ _ => (de_tup (dd_star (de_v (pv 5)) (dd_cons (de_v (pv 6)) dd_nil)))))) pa_nil)))))))
      (dss_one (ds_set (i := 2) sc_words_of.nd rfl (.inl rfl) (de_cr lisL (pe_callTy (call_list_ofK K rfl) (by rfl) B.list (by decide +kernel) (DA.pa (da_cons (de_v (pv 4)) da_nil)))))))))
    (dss_one (ds_ret (de_cr tupL (pe_callTy (call_tuple_ofK K rfl) (by rfl) B.tuple (by decide +kernel) (DA.pa (da_cons (de_v (pv 2)) da_nil)))))))), ?_⟩
  rintro args Q ⟨t, n, rfl, ht, hn, q⟩
  refine ⟨⟨by omega, by omega⟩, forT (fun (i : Nat) => PyData.int (i : Int)) (List.range n) rfl (by rw [Int.toNat_natCast]; exact rgD0 n) (fun pre ρ => ∃ v3 v4 v5, ρ = [some (.d (.int t)), some (.d (.int n)), some (.l .mine ((wds t pre.length).map tN)), v3, v4, v5, none]) ⟨none, none, none, rfl⟩ ?_ ?_⟩
  · rintro pre x post ρ' e ⟨v3, v4, v5, rfl⟩
    have pl : pre.length < n := by
      have := congrArg List.length e
      simp at this; omega
    have pw2 := pow_small (n := pre.length + 1) ht (by omega)
    refine forT tN (wds t pre.length) rfl rfl (fun pr ρ => ∃ v5, ρ = [some (.d (.int t)), some (.d (.int n)), some (.d (.list ((wds t pre.length).map tN))), some (.d (.int x)), some (.l .mine ((wdsPart t pr).map tN)), v5, none]) ⟨v5, rfl⟩ ?_ ?_
    · rintro pr w po ρ' e2 ⟨v5, rfl⟩
      have prl : pr.length < t ^ pre.length := by
        have := congrArg List.length e2
        rw [wds_len] at this
        simp at this; omega
      have jt : pr.length * t + t ≤ t ^ (pre.length + 1) := by rw [Nat.pow_succ, ← Nat.succ_mul]; exact Nat.mul_le_mul_right t prl
      have hw : w.length = pre.length := (mem_wds.mp (by rw [e2]; simp)).1
      refine ⟨⟨by omega, by omega⟩, lcM (fun (i : Nat) => PyData.int (i : Int)) (List.range t) (fun i => tN (w ++ [i])) (by rw [Int.toNat_natCast]; exact rgD0 t) (by rw [List.length_range]; exact Nat.le_trans (show t ≤ 60 by omega) (by decide)) (fun y hy Qy q => ?_) ?_ mono_gN⟩
      · refine szI ?_ ?_
        · rw [List.length_append, List.length_map, hw]
          exact Nat.le_trans (show _ ≤ 60 by show pre.length + 1 ≤ 60; omega) (by decide)
        · rw [tN_snoc] at q
          exact q
      · refine ⟨?_, ?_⟩
        · rw [List.length_map, List.length_map, List.length_range, wdsPart_len]
          exact Nat.le_trans (show _ ≤ 46656 by omega) (by decide)
        · exact ⟨_, by rw [wdsPart_snoc, List.map_append, List.map_map]; rfl⟩
    · rintro ρ' ⟨v5, rfl⟩
      have e3 : wds t (pre ++ [x]).length = wdsPart t (wds t pre.length) := by rw [List.length_append]; rfl
      rw [e3]
      exact ⟨_, _, _, rfl⟩
  · rintro ρ' ⟨v3, v4, v5, rfl⟩
    rw [List.length_range]
    exact q
def dsp__law_words : Dsp := fun args Q => ∃ t n : Nat, args = [.d (.int t), .d (.int n)] ∧ t ≤ 6 ∧ n ≤ 6 ∧ Q (.l .mine ((wds t n).map tN))
abbrev Ok__law_words (P : Program) (w : World) (K : PySem.W.Frag) (mg : Str → Option Value) (base : Heap) (a : Addr) (fd : FuncData) : Prop := FnG P w K mg base 1 a fd ["t", "n"] (spL () dsp__law_words)
theorem ok__law_words {a__law_words : Addr} {d__law_words : FuncData} (D__law_words : Df__law_words K mg a__law_words d__law_words) (B : Bl mg) : Ok__law_words P w K mg base a__law_words d__law_words := by
  refine dfn D__law_words.F sc__law_words (fun args Q h => by (repeat obtain ⟨_, h⟩ := h) <;> (subst_vars; rfl)) (fun cdv A outer s H E F0 S0 hg hr => ?_)
  refine ⟨_, (dss_cons (ds_set (i := 2) sc__law_words.nd rfl (.inl rfl) (de_lst (dd_cons (de_tup dd_nil) dd_nil)))
    (dss_cons (ds_for (g := (gName 3)) (G := (gN 3)) (vs := [3]) (di_range1 (by rfl) B.range (da_cons (de_v (pv 1)) da_nil)) (pg_name (i := 3) sc__law_words.nd rfl (.inl rfl)) gl_name 
      (dss_cons (ds_set (i := 4) sc__law_words.nd rfl (.inl rfl) (de_lst dd_nil))
      (dss_cons (ds_frz [2] (ds_for (g := (gName 5)) (G := (gN 5)) (vs := [5]) (di_seq (de_v (pv 2))) (pg_name (i := 5) sc__law_words.nd rfl (.inr rfl)) gl_name 
        (dss_one (ds_ext (ps_expr (pe_bm PySem.F.plainAttrs_list PySem.F.slot_list_extend PySem.F.type_list_extend mt_extend (pv 4) (pa_cons (DE.pe (de_lc (own := [("x", 6)]) (g := (gName 6)) (G := (gN 6)) (t := dYes) sc__law_words.nd (di_range1 (by rfl) B.range (da_cons (de_v (pv 0)) da_nil)) (blkOk_by (N := N__law_words) (sc := defScope s__law_words) (by decide +kernel)) gl_name (fun _ _ _ _ _ => (pg_name (i := 6) sc__law_words.nd rfl (.inl rfl))) (fun _ _ _ _ _ => dts_nil) (fun _ _ _ _ _ => (de_op op_addU addL (de_v (pv 5)) (de_tup (dd_cons (de_v (pv 6)) dd_nil)))))) pa_nil)))))))
      (dss_one (ds_set (i := 2) sc__law_words.nd rfl (.inl rfl) (de_cr lisL (pe_callTy (call_list_ofK K rfl) (by rfl) B.list (by decide +kernel) (DA.pa (da_cons (de_v (pv 4)) da_nil)))))))))
    (dss_one (ds_retV (pv 2))))), ?_⟩
  rintro args Q ⟨t, n, rfl, ht, hn, q⟩
  refine ⟨⟨by omega, by omega⟩, forT (fun (i : Nat) => PyData.int (i : Int)) (List.range n) rfl (by rw [Int.toNat_natCast]; exact rgD0 n) (fun pre ρ => ∃ v3 v4 v5, ρ = [some (.d (.int t)), some (.d (.int n)), some (.l .mine ((wds t pre.length).map tN)), v3, v4, v5, none]) ⟨none, none, none, rfl⟩ ?_ ?_⟩
  · rintro pre x post ρ' e ⟨v3, v4, v5, rfl⟩
    have pl : pre.length < n := by
      have := congrArg List.length e
      simp at this; omega
    have pw2 := pow_small (n := pre.length + 1) ht (by omega)
    refine forT tN (wds t pre.length) rfl rfl (fun pr ρ => ∃ v5, ρ = [some (.d (.int t)), some (.d (.int n)), some (.d (.list ((wds t pre.length).map tN))), some (.d (.int x)), some (.l .mine ((wdsPart t pr).map tN)), v5, none]) ⟨v5, rfl⟩ ?_ ?_
    · rintro pr w po ρ' e2 ⟨v5, rfl⟩
      have prl : pr.length < t ^ pre.length := by
        have := congrArg List.length e2
        rw [wds_len] at this
        simp at this; omega
      have jt : pr.length * t + t ≤ t ^ (pre.length + 1) := by rw [Nat.pow_succ, ← Nat.succ_mul]; exact Nat.mul_le_mul_right t prl
      have hw : w.length = pre.length := (mem_wds.mp (by rw [e2]; simp)).1
      refine ⟨⟨by omega, by omega⟩, lcM (fun (i : Nat) => PyData.int (i : Int)) (List.range t) (fun i => tN (w ++ [i])) (by rw [Int.toNat_natCast]; exact rgD0 t) (by rw [List.length_range]; exact Nat.le_trans (show t ≤ 60 by omega) (by decide)) (fun y hy Qy q => ?_) ?_ mono_gN⟩
      · refine ⟨?_, ?_⟩
        · rw [List.length_map, hw]
          exact Nat.le_trans (show _ ≤ 60 by show pre.length + 1 ≤ 60; omega) (by decide)
        · rw [tN_snoc] at q
          exact q
      · refine ⟨?_, ?_⟩
        · rw [List.length_map, List.length_map, List.length_range, wdsPart_len]
          exact Nat.le_trans (show _ ≤ 46656 by omega) (by decide)
        · exact ⟨_, by rw [wdsPart_snoc, List.map_append, List.map_map]; rfl⟩
    · rintro ρ' ⟨v5, rfl⟩
      have e3 : wds t (pre ++ [x]).length = wdsPart t (wds t pre.length) := by rw [List.length_append]; rfl
      rw [e3]
      exact ⟨_, _, _, rfl⟩
  · rintro ρ' ⟨v3, v4, v5, rfl⟩
    rw [List.length_range]
    exact q
theorem wpl_fold (t : Nat) (w : List Nat) (x : Nat) : wpl t (w ++ [x]) = wpl t w * t + x := wpl_snoc t w x
def dsp_word_place : Dsp := fun args Q => ∃ (t : Nat) (w : List Nat), args = [.d (.int t), .d (tN w)] ∧ t < 1000 ∧ Q (.d (.int (wpl t w : Nat)))
abbrev Ok_word_place (P : Program) (w : World) (K : PySem.W.Frag) (mg : Str → Option Value) (base : Heap) (a : Addr) (fd : FuncData) : Prop := FnG P w K mg base 1 a fd ["t", "word"] (spL () dsp_word_place)
theorem ok_word_place {a_word_place : Addr} {d_word_place : FuncData} (D_word_place : Df_word_place K mg a_word_place d_word_place) (B : Bl mg) : Ok_word_place P w K mg base a_word_place d_word_place := by
  refine dfn D_word_place.F sc_word_place (fun args Q h => by (repeat obtain ⟨_, h⟩ := h) <;> (subst_vars; rfl)) (fun cdv A outer s H E F0 S0 hg hr => ?_)
  refine ⟨_, (dss_cons (ds_set (i := 2) sc_word_place.nd rfl (.inl rfl) de_int)
    (dss_cons (ds_for (g := (gName 3)) (G := (gN 3)) (vs := [3]) (di_seq (de_v (pv 1))) (pg_name (i := 3) sc_word_place.nd rfl (.inl rfl)) gl_name 
      (dss_one (ds_set (i := 2) sc_word_place.nd rfl (.inl rfl) (de_op op_addU addL (de_op op_mulU mulL (de_v (pv 2)) (de_v (pv 0))) (de_v (pv 3))))))
    (dss_one (ds_ret (de_v (pv 2)))))), ?_⟩
  rintro args Q ⟨t, w, rfl, ht, q⟩
  refine forT (fun (i : Nat) => PyData.int (i : Int)) w rfl rfl (fun pre ρ => ∃ v3, ρ = [some (.d (.int t)), some (.d (tN w)), some (.d (.int (wpl t pre : Nat))), v3]) ⟨none, rfl⟩ ?_ ?_
  · rintro pre x post ρ' e ⟨v3, rfl⟩
    refine ⟨mulG_r (n := 1000) (by omega), some (.d (.int (x : Int))), ?_⟩
    rw [wpl_snoc]
    rfl
  · rintro ρ' ⟨v3, rfl⟩
    exact q
def dsp_word_number : Dsp := fun args Q => ∃ (w : List Nat), args = [.d (tN w)] ∧ Q (.d (.int ((1 + w.sum : Nat) : Int)))
abbrev Ok_word_number (P : Program) (w : World) (K : PySem.W.Frag) (mg : Str → Option Value) (base : Heap) (a : Addr) (fd : FuncData) : Prop := FnG P w K mg base 1 a fd ["word"] (spL () dsp_word_number)
theorem ok_word_number {a_word_number : Addr} {d_word_number : FuncData} (D_word_number : Df_word_number K mg a_word_number d_word_number) (B : Bl mg) : Ok_word_number P w K mg base a_word_number d_word_number := by
  refine dfn D_word_number.F sc_word_number (fun args Q h => by (repeat obtain ⟨_, h⟩ := h) <;> (subst_vars; rfl)) (fun cdv A outer s H E F0 S0 hg hr => ?_)
  refine ⟨_, (dss_one (ds_ret (de_op op_addU addL de_int (de_cr sumL (pe_callB (cr_sumU rfl) (by rfl) B.sum (by decide +kernel) (DA.pa (da_cons (de_v (pv 0)) da_nil))))))), ?_⟩
  rintro args Q ⟨w, rfl, q⟩
  refine ⟨w.map fun (a : Nat) => (a : Int), by rw [← ints_nat]; rfl, ?_⟩
  rw [sum_nat]
  exact q
def dsp_line_row : Dsp := fun args Q => ∃ (ws : List (List Nat)), args = [.d (fN ws)] ∧ ws.length ≤ 1000 ∧ Q (.d (tN (ws.map fun w => 1 + w.sum)))
abbrev Ok_line_row (P : Program) (w : World) (K : PySem.W.Frag) (mg : Str → Option Value) (base : Heap) (a : Addr) (fd : FuncData) : Prop := FnG P w K mg base 2 a fd ["line"] (spL () dsp_line_row)
theorem ok_line_row {a_line_row : Addr} {d_line_row : FuncData} {a_word_number : Addr} {d_word_number : FuncData} (D_line_row : Df_line_row K mg a_line_row d_line_row) (D_word_number : Df_word_number K mg a_word_number d_word_number) (G_word_number : Ok_word_number P w K mg base a_word_number d_word_number) (B : Bl mg) : Ok_line_row P w K mg base a_line_row d_line_row := by
  refine dfn D_line_row.F sc_line_row (fun args Q h => by (repeat obtain ⟨_, h⟩ := h) <;> (subst_vars; rfl)) (fun cdv A outer s H E F0 S0 hg hr => ?_)
  have hrword_number : Room 1 _ := hr.mono (by decide)
  refine ⟨_, (dss_one (ds_ret (de_cr tupL (pe_callTy (call_tuple_ofK K rfl) (by rfl) B.tuple (by decide +kernel) (DA.pa (da_cons (de_lc (own := [("word", 1)]) (g := (gName 1)) (G := (gN 1)) (t := dYes) sc_line_row.nd (di_seq (de_v (pv 0))) (blkOk_by (N := N_line_row) (sc := defScope s_line_row) (by decide +kernel)) gl_name (fun _ _ _ _ _ => (pg_name (i := 1) sc_line_row.nd rfl (.inl rfl))) (fun _ _ _ _ _ => dts_nil) (fun _ _ _ _ _ => (de_call (ms := []) hg D_word_number G_word_number hrword_number (by rfl) (da_cons (de_v (pv 1)) da_nil)))) da_nil)))))), ?_⟩
  rintro args Q ⟨ws, rfl, hl, q⟩
  refine lcM tN ws (fun w => .int ((1 + w.sum : Nat) : Int)) rfl (Nat.le_trans hl (by decide)) (fun w _ Qy q => ⟨w, rfl, q⟩) ?_ mono_gN
  unfold tN at q
  rw [List.map_map] at q
  exact q
def dsp_tally_row : Dsp := fun args Q => ∃ (n k : Nat), args = [.d (.int n), .d (.int k)] ∧ n ≤ 6 ∧ 1 ≤ k ∧ Q (.d (tN ((wds 2 n).map fun w => w.sum % k)))
abbrev Ok_tally_row (P : Program) (w : World) (K : PySem.W.Frag) (mg : Str → Option Value) (base : Heap) (a : Addr) (fd : FuncData) : Prop := FnG P w K mg base 2 a fd ["n", "k"] (spL () dsp_tally_row)
theorem ok_tally_row {a_tally_row : Addr} {d_tally_row : FuncData} {a_words_of : Addr} {d_words_of : FuncData} (D_tally_row : Df_tally_row K mg a_tally_row d_tally_row) (D_words_of : Df_words_of K mg a_words_of d_words_of) (G_words_of : Ok_words_of P w K mg base a_words_of d_words_of) (B : Bl mg) : Ok_tally_row P w K mg base a_tally_row d_tally_row := by
  refine dfn D_tally_row.F sc_tally_row (fun args Q h => by (repeat obtain ⟨_, h⟩ := h) <;> (subst_vars; rfl)) (fun cdv A outer s H E F0 S0 hg hr => ?_)
  have hrwords_of : Room 1 _ := hr.mono (by decide)
  refine ⟨_, (dss_one (ds_ret (de_cr tupL (pe_callTy (call_tuple_ofK K rfl) (by rfl) B.tuple (by decide +kernel) (DA.pa (da_cons (de_lc (own := [("word", 2)]) (g := (gName 2)) (G := (gN 2)) (t := dYes) sc_tally_row.nd (di_seq (de_call (ms := []) hg D_words_of G_words_of hrwords_of (by rfl) (da_cons de_int (da_cons (de_v (pv 0)) da_nil)))) (blkOk_by (N := N_tally_row) (sc := defScope s_tally_row) (by decide +kernel)) gl_name (fun _ _ _ _ _ => (pg_name (i := 2) sc_tally_row.nd rfl (.inl rfl))) (fun _ _ _ _ _ => dts_nil) (fun _ _ _ _ _ => (de_op op_modG modL (de_cr sumL (pe_callB (cr_sumU rfl) (by rfl) B.sum (by decide +kernel) (DA.pa (da_cons (de_v (pv 2)) da_nil)))) (de_v (pv 1))))) da_nil)))))), ?_⟩
  rintro args Q ⟨n, k, rfl, hn, hk, q⟩
  refine ⟨2, n, rfl, by decide, hn, ?_⟩
  have pw := pow_small (t := 2) (by decide) hn
  refine lcM tN (wds 2 n) (fun w => .int ((w.sum % k : Nat) : Int)) rfl (by rw [wds_len]; exact Nat.le_trans pw (by decide)) (fun w _ Qy q => ?_) ?_ mono_gN
  · refine ⟨w.map fun (a : Nat) => (a : Int), by rw [← ints_nat]; rfl, ?_⟩
    rw [sum_nat]
    exact ⟨by omega, q⟩
  · unfold tN at q
    rw [List.map_map] at q
    exact q
end
end K47
namespace K47
open PySem L2 Gk Dl Ca
/-- rows of numbers in even steps -/
def rowAt (l a d : Nat) : List Nat := (List.range l).map fun i => a + i * d
def rowsL (l m : Nat) : List (List Nat) := (List.range m).flatMap fun a => (List.range ((m - (a + 1)) / (l - 1))).map fun d => rowAt l (a + 1) (d + 1)
theorem rowAt_len (l a d : Nat) : (rowAt l a d).length = l := by unfold rowAt; rw [List.length_map, List.length_range]
theorem rowAt_ne {l a d : Nat} (h : 0 < l) : rowAt l a d ≠ [] := fun e => by have := congrArg List.length e; rw [rowAt_len] at this; simp at this; omega
theorem mem_rowsL {l m : Nat} {r : List Nat} (hl : 2 ≤ l) : r ∈ rowsL l m ↔ ∃ a d, 1 ≤ a ∧ 1 ≤ d ∧ a + (l - 1) * d ≤ m ∧ r = rowAt l a d := by
  unfold rowsL
  rw [List.mem_flatMap]
  constructor
  · rintro ⟨a, ha, h⟩
    obtain ⟨d, hd, rfl⟩ := List.mem_map.mp h
    have ha := List.mem_range.mp ha
    have hd := List.mem_range.mp hd
    have := (Nat.le_div_iff_mul_le (show 0 < l - 1 by omega)).mp (show d + 1 ≤ _ from hd)
    rw [Nat.mul_comm] at this
    exact ⟨a + 1, d + 1, by omega, by omega, by omega, rfl⟩
  · rintro ⟨a, d, h1, h2, h3, rfl⟩
    have p : 0 < (l - 1) * d := Nat.mul_pos (by omega) h2
    refine ⟨a - 1, List.mem_range.mpr (by omega), List.mem_map.mpr ⟨d - 1, List.mem_range.mpr ?_, by rw [show a - 1 + 1 = a by omega, show d - 1 + 1 = d by omega]⟩⟩
    have := (Nat.le_div_iff_mul_le (show 0 < l - 1 by omega)).mpr (show d * (l - 1) ≤ m - (a - 1 + 1) by rw [Nat.mul_comm]; omega)
    omega
/-- of one color -/
def mono (c xs : List Nat) : Bool := xs.all fun x => decide (c.getD (x - 1) 0 = c.getD (xs.headD 1 - 1) 0)
def rowsPart (l m a : Nat) (pre : List Nat) : List (List Nat) := pre.map fun d => rowAt l (a + 1) (d + 1)
theorem flat_le {α β : Type} {f : α → List β} {k : Nat} : ∀ (xs : List α), (∀ a ∈ xs, (f a).length ≤ k) → (xs.flatMap f).length ≤ xs.length * k
  | [], _ => by simp
  | x :: xs, h => by
    rw [List.flatMap_cons, List.length_append, List.length_cons, Nat.succ_mul]
    have := flat_le xs fun a ha => h a (by simp [ha])
    have := h x (by simp)
    omega
theorem rowsL_len (l m : Nat) : (rowsL l m).length ≤ m * m := by
  unfold rowsL
  rw [List.length_flatMap]
  have : ∀ k, ((List.range k).map fun a => ((List.range ((m - (a + 1)) / (l - 1))).map fun d => rowAt l (a + 1) (d + 1)).length).sum ≤ k * m := fun k => by
    induction k with
    | zero => simp
    | succ k ih =>
      rw [List.range_succ, List.map_append, List.sum_append, List.map_singleton, List.sum_singleton, List.length_map, List.length_range, Nat.succ_mul]
      have := Nat.div_le_self (m - (k + 1)) (l - 1)
      exact Nat.add_le_add ih (by omega)
  exact this m
section
variable {P : Program} {w : World} {K : PySem.W.Frag} {mg : Str → Option Value} {base : Heap}
def dsp_sums_to : Dsp := fun args _ => ∃ x : DV, args = [x] ∧ False
abbrev Ok_sums_to (P : Program) (w : World) (K : PySem.W.Frag) (mg : Str → Option Value) (base : Heap) (a : Addr) (fd : FuncData) : Prop := FnG P w K mg base 1 a fd ["many"] (spL () dsp_sums_to)
theorem ok_sums_to {a_sums_to : Addr} {d_sums_to : FuncData} (D_sums_to : Df_sums_to K mg a_sums_to d_sums_to) (B : Bl mg) : Ok_sums_to P w K mg base a_sums_to d_sums_to := by
  refine dfn D_sums_to.F sc_sums_to (fun args Q h => by (repeat obtain ⟨_, h⟩ := h) <;> (subst_vars; rfl)) (fun cdv A outer s H E F0 S0 hg hr => ?_)
  refine ⟨_, (dss_cons (ds_set (i := 1) sc_sums_to.nd rfl (.inl rfl) (de_lst dd_nil))
    (dss_cons (ds_for (g := (gName 2)) (G := (gN 2)) (vs := [2]) (di_range2 (by rfl) B.range (da_cons de_int (da_cons (de_op op_addU addL (de_v (pv 0)) de_int) da_nil))) (pg_name (i := 2) sc_sums_to.nd rfl (.inr rfl)) gl_name 
      (dss_one (ds_ext (ps_expr (pe_bm PySem.F.plainAttrs_list PySem.F.slot_list_extend PySem.F.type_list_extend mt_extend (pv 1) (pa_cons (DE.pe (de_lc (own := [("b", 3)]) (g := (gName 3)) (G := (gN 3)) (t := dYes) sc_sums_to.nd (di_range2 (by rfl) B.range (da_cons (de_v (pv 2)) (da_cons (de_op op_addU addL (de_op op_sub subL (de_v (pv 0)) (de_v (pv 2))) de_int) da_nil))) (blkOk_by (N := N_sums_to) (sc := defScope s_sums_to) (by decide +kernel)) gl_name (fun _ _ _ _ _ => (pg_name (i := 3) sc_sums_to.nd rfl (.inl rfl))) (fun _ _ _ _ _ => dts_nil) (fun _ _ _ _ _ => (de_tup (dd_cons (de_v (pv 2)) (dd_cons (de_v (pv 3)) (dd_cons (de_op op_addU addL (de_v (pv 2)) (de_v (pv 3))) dd_nil))))))) pa_nil))))))
    (dss_one (ds_retV (pv 1))))), ?_⟩
  rintro args Q ⟨x, _, h⟩
  exact h.elim
def dsp_rows_to : Dsp := fun args Q => ∃ l m : Nat, args = [.d (.int l), .d (.int m)] ∧ 2 ≤ l ∧ l ≤ 60 ∧ m ≤ 1000 ∧ Q (.l .mine ((rowsL l m).map tN))
abbrev Ok_rows_to (P : Program) (w : World) (K : PySem.W.Frag) (mg : Str → Option Value) (base : Heap) (a : Addr) (fd : FuncData) : Prop := FnG P w K mg base 1 a fd ["length", "many"] (spL () dsp_rows_to)
theorem ok_rows_to {a_rows_to : Addr} {d_rows_to : FuncData} (D_rows_to : Df_rows_to K mg a_rows_to d_rows_to) (B : Bl mg) : Ok_rows_to P w K mg base a_rows_to d_rows_to := by
  refine dfn D_rows_to.F sc_rows_to (fun args Q h => by (repeat obtain ⟨_, h⟩ := h) <;> (subst_vars; rfl)) (fun cdv A outer s H E F0 S0 hg hr => ?_)
  refine ⟨_, (dss_cons (ds_set (i := 2) sc_rows_to.nd rfl (.inl rfl) (de_lst dd_nil))
    (dss_cons (ds_for (g := (gName 3)) (G := (gN 3)) (vs := [3]) (di_range2 (by rfl) B.range (da_cons de_int (da_cons (de_op op_addU addL (de_v (pv 1)) de_int) da_nil))) (pg_name (i := 3) sc_rows_to.nd rfl (.inr rfl)) gl_name 
      (dss_one (ds_for (g := (gName 4)) (G := (gN 4)) (vs := [4]) (di_range2 (by rfl) B.range (da_cons de_int (da_cons (de_op op_addU addL (de_op op_fdivW fdivL (de_op op_sub subL (de_v (pv 1)) (de_v (pv 3))) (de_op op_sub subL (de_v (pv 0)) de_int)) de_int) da_nil))) (pg_name (i := 4) sc_rows_to.nd rfl (.inr rfl)) gl_name 
        (dss_one (ds_app (ps_expr (pe_bm PySem.F.plainAttrs_list PySem.F.slot_list_append PySem.F.type_list_append mt_append (pv 2) (pa_cons (DE.pe (de_cr tupL (pe_callTy (call_tuple_ofK K rfl) (by rfl) B.tuple (by decide +kernel) (DA.pa (da_cons (de_lc (own := [("i", 5)]) (g := (gName 5)) (G := (gN 5)) (t := dYes) sc_rows_to.nd (di_range1 (by rfl) B.range (da_cons (de_v (pv 0)) da_nil)) (blkOk_by (N := N_rows_to) (sc := defScope s_rows_to) (by decide +kernel)) gl_name (fun _ _ _ _ _ => (pg_name (i := 5) sc_rows_to.nd rfl (.inl rfl))) (fun _ _ _ _ _ => dts_nil) (fun _ _ _ _ _ => (de_op op_addU addL (de_v (pv 3)) (de_op op_mulU mulL (de_v (pv 5)) (de_v (pv 4)))))) da_nil))))) pa_nil))))))))
    (dss_one (ds_retV (pv 2))))), ?_⟩
  rintro args Q ⟨l, m, rfl, hl, hl2, hm, q⟩
  refine ⟨⟨by decide, by decide, by omega, by omega⟩, forT (fun (i : Nat) => PyData.int (1 + (i : Int))) (List.range m) rfl (by rw [show ((m : Int) + 1 - 1).toNat = m by omega]; rfl) (fun pre ρ => ∃ v3 v4 v5, ρ = [some (.d (.int l)), some (.d (.int m)), some (.l .mine ((pre.flatMap fun a => (List.range ((m - (a + 1)) / (l - 1))).map fun d => rowAt l (a + 1) (d + 1)).map tN)), v3, v4, v5]) ⟨none, none, none, rfl⟩ ?_ ?_⟩
  · rintro pre a post ρ' e ⟨v3, v4, v5, rfl⟩
    have al : a < m := List.mem_range.mp (by rw [e]; simp)
    have ed : ((m : Int) - (1 + (a : Int))) / ((l : Int) - 1) = (((m - (a + 1)) / (l - 1) : Nat) : Int) := by
      rw [Int.natCast_ediv, show ((m - (a + 1) : Nat) : Int) = (m : Int) - (1 + (a : Int)) by omega, show ((l - 1 : Nat) : Int) = (l : Int) - 1 by omega]
    have dl := Nat.div_le_self (m - (a + 1)) (l - 1)
    obtain ⟨q0, hq⟩ : ∃ q0, (m - (a + 1)) / (l - 1) = q0 := ⟨_, rfl⟩
    rw [hq] at ed dl
    refine ⟨divG (by omega) (by omega), ⟨by decide, by decide, by rw [ed]; omega, by rw [ed]; omega⟩, forT (fun (i : Nat) => PyData.int (1 + (i : Int))) (List.range q0) rfl (by rw [ed, show ((q0 : Int) + 1 - 1).toNat = q0 by omega]; rfl) (fun pr ρ => ∃ v4 v5, ρ = [some (.d (.int l)), some (.d (.int m)), some (.l .mine (((pre.flatMap fun a => (List.range ((m - (a + 1)) / (l - 1))).map fun d => rowAt l (a + 1) (d + 1)) ++ rowsPart l m a pr).map tN)), some (.d (.int (1 + (a : Int)))), v4, v5]) ⟨v4, v5, by unfold rowsPart; rw [List.map_nil, List.append_nil]; rfl⟩ ?_ ?_⟩
    · rintro pr d po ρ' e2 ⟨v4, v5, rfl⟩
      have dlt : d < q0 := List.mem_range.mp (by rw [e2]; simp)
      refine ⟨⟨by omega, by omega⟩, lcM (fun (i : Nat) => PyData.int (i : Int)) (List.range l) (fun i => .int (((a + 1) + i * (d + 1) : Nat) : Int)) (by rw [Int.toNat_natCast]; exact rgD0 l) (by rw [List.length_range]; exact Nat.le_trans hl2 (by decide)) (fun i hi Qy q => ?_) ?_ mono_gN⟩
      · refine ⟨mulG_r (n := 2000) (by omega), ?_⟩
        rw [show ((a + 1 + i * (d + 1) : Nat) : Int) = 1 + (a : Int) + (i : Int) * (1 + (d : Int)) by rw [Int.natCast_add, Int.natCast_mul, show ((d + 1 : Nat) : Int) = 1 + (d : Int) by omega]; omega] at q
        exact q
      · refine ⟨?_, some (.d (.int (1 + (d : Int)))), v5, ?_⟩
        · rw [List.length_map, List.length_append]
          have h1 := flat_le (f := fun a => (List.range ((m - (a + 1)) / (l - 1))).map fun d => rowAt l (a + 1) (d + 1)) (k := m) pre fun a _ => by
            rw [List.length_map, List.length_range]
            have := Nat.div_le_self (m - (a + 1)) (l - 1)
            omega
          have h2 : pre.length ≤ m := by have := congrArg List.length e; simp at this; omega
          have h3 : (rowsPart l m a pr).length ≤ m := by
            unfold rowsPart
            have := congrArg List.length e2
            rw [List.length_map]; simp at this; omega
          have h4 := Nat.mul_le_mul_right m h2
          have h5 := Nat.mul_le_mul hm hm
          exact Nat.lt_of_le_of_lt (show _ ≤ 2000000 by omega) (by decide)
        · have e3 : rowsPart l m a (pr ++ [d]) = rowsPart l m a pr ++ [rowAt l (a + 1) (d + 1)] := by unfold rowsPart; rw [List.map_append]; rfl
          have e4 : (List.range l).map (fun (i : Nat) => PyData.int (((a + 1) + i * (d + 1) : Nat) : Int)) = (rowAt l (a + 1) (d + 1)).map fun (x : Nat) => PyData.int (x : Int) := by unfold rowAt; rw [List.map_map]; rfl
          rw [e3, e4]
          simp only [List.map_append, List.append_assoc]
          rfl
    · rintro ρ' ⟨v4, v5, rfl⟩
      refine ⟨some (.d (.int (1 + (a : Int)))), v4, v5, ?_⟩
      rw [List.flatMap_append]
      simp only [List.flatMap_cons, List.flatMap_nil, List.append_nil, hq]
      rfl
  · rintro ρ' ⟨v3, v4, v5, rfl⟩
    exact q
end
end K47
namespace K47
open PySem L2 Gk Dl Ca
def rowsS (l m : Nat) : List (List Nat) := srtE tN (rowsL l m)
theorem all_mono (c xs : List Nat) : ((xs.map fun x => decide (c.getD (x - 1) 0 = c.getD (xs.headD 1 - 1) 0)).all id) = mono c xs := by unfold mono; rw [List.all_map]; rfl
theorem atI_lN {c : List Nat} {i : Nat} {j : Int} (h : i < c.length) (e : j = (i : Int)) : atI (c.map fun (a : Nat) => PyData.int (a : Int)) j = some (.int ((c.getD i 0 : Nat) : Int)) := by
  subst e
  rw [atI_nat (show (c.map fun (a : Nat) => PyData.int (a : Int))[i]? = some (.int ((c.getD i 0 : Nat) : Int)) by rw [List.getElem?_map, List.getElem?_eq_getElem h, List.getD_eq_getElem?_getD, List.getElem?_eq_getElem h]; rfl)]
section
variable {P : Program} {w : World} {K : PySem.W.Frag} {mg : Str → Option Value} {base : Heap}
def dsp_shape_tuples : Dsp := fun args Q => ∃ l m : Nat, args = [.d (.int l), .d (.int m)] ∧ 2 ≤ l ∧ l ≤ 60 ∧ m ≤ 1000 ∧ Q (.d (fN (rowsS l m)))
abbrev Ok_shape_tuples (P : Program) (w : World) (K : PySem.W.Frag) (mg : Str → Option Value) (base : Heap) (a : Addr) (fd : FuncData) : Prop := FnG P w K mg base 2 a fd ["shape", "many"] (spL () dsp_shape_tuples)
theorem ok_shape_tuples {a_shape_tuples : Addr} {d_shape_tuples : FuncData} {a_sums_to : Addr} {d_sums_to : FuncData} {a_rows_to : Addr} {d_rows_to : FuncData} (D_shape_tuples : Df_shape_tuples K mg a_shape_tuples d_shape_tuples) (D_sums_to : Df_sums_to K mg a_sums_to d_sums_to) (G_sums_to : Ok_sums_to P w K mg base a_sums_to d_sums_to) (D_rows_to : Df_rows_to K mg a_rows_to d_rows_to) (G_rows_to : Ok_rows_to P w K mg base a_rows_to d_rows_to) (B : Bl mg) : Ok_shape_tuples P w K mg base a_shape_tuples d_shape_tuples := by
  refine dfn D_shape_tuples.F sc_shape_tuples (fun args Q h => by (repeat obtain ⟨_, h⟩ := h) <;> (subst_vars; rfl)) (fun cdv A outer s H E F0 S0 hg hr => ?_)
  have hrsums_to : Room 1 _ := hr.mono (by decide)
  have hrrows_to : Room 1 _ := hr.mono (by decide)
  refine ⟨_, (dss_one (ds_ret (de_cr tupL (pe_callTy (call_tuple_ofK K rfl) (by rfl) B.tuple (by decide +kernel) (DA.pa (da_cons (de_cr sortDL (pe_callB (cr_sortedU rfl hr.units) (by rfl) B.sorted (by decide +kernel) (DA.pa (da_cons (de_ifExp (dt_cmp (op_eqP hr.units) (eqPL false) (de_v (pv 0)) de_int) (de_call (ms := []) hg D_sums_to G_sums_to hrsums_to (by rfl) (da_cons (de_v (pv 1)) da_nil)) (de_call (ms := []) hg D_rows_to G_rows_to hrrows_to (by rfl) (da_cons (de_v (pv 0)) (da_cons (de_v (pv 1)) da_nil)))) da_nil)))) da_nil)))))), ?_⟩
  rintro args Q ⟨l, m, rfl, hl, hl2, hm, q⟩
  refine ⟨fun h => ?_, fun _ => ⟨l, m, rfl, hl, hl2, hm, ?_⟩⟩
  · have h : decide ((l : Int) = 0) = true := by simpa using h
    rw [decide_eq_true_eq] at h; omega
  · delta dNil
    refine sortD_tN (x := .l .mine ((rowsL l m).map tN)) (xs := rowsL l m) rfl (fun a ha => ?_) ?_
    · obtain ⟨x, d, _, _, _, rfl⟩ := (mem_rowsL hl).mp ha
      exact rowAt_ne (by omega)
    · exact q
def dsp_is_of_one_color : Dsp := fun args Q => ∃ (c xs : List Nat) (a : DV), args = [.d (tN c), a] ∧ (a = .d (tN xs) ∨ a = .l .old (lN xs)) ∧ xs.length ≤ 1000 ∧ (∀ x ∈ xs, 1 ≤ x ∧ x ≤ c.length) ∧ Q (.d (.bool (mono c xs)))
abbrev Ok_is_of_one_color (P : Program) (w : World) (K : PySem.W.Frag) (mg : Str → Option Value) (base : Heap) (a : Addr) (fd : FuncData) : Prop := FnG P w K mg base 1 a fd ["coloring", "numbers"] (spL () dsp_is_of_one_color)
theorem ok_is_of_one_color {a_is_of_one_color : Addr} {d_is_of_one_color : FuncData} (D_is_of_one_color : Df_is_of_one_color K mg a_is_of_one_color d_is_of_one_color) (B : Bl mg) : Ok_is_of_one_color P w K mg base a_is_of_one_color d_is_of_one_color := by
  refine dfn D_is_of_one_color.F sc_is_of_one_color (fun args Q h => by (repeat obtain ⟨_, h⟩ := h) <;> (subst_vars; rfl)) (fun cdv A outer s H E F0 S0 hg hr => ?_)
  refine ⟨_, (dss_one (ds_ret (de_cr allL (pe_callB (cr_all rfl) (by rfl) B.all (by decide +kernel) (DA.pa (da_cons (de_lc (own := [("x", 2)]) (g := (gName 2)) (G := (gN 2)) (t := dYes) sc_is_of_one_color.nd (di_seq (de_v (pv 1))) (blkOk_by (N := N_is_of_one_color) (sc := defScope s_is_of_one_color) (by decide +kernel)) gl_name (fun _ _ _ _ _ => (pg_name (i := 2) sc_is_of_one_color.nd rfl (.inl rfl))) (fun _ _ _ _ _ => dts_nil) (fun _ _ _ _ _ => (de_cmp (op_eqP hr.units) (eqPL false) (de_ix (de_v (pv 0)) (de_op op_sub subL (de_v (pv 2)) de_int)) (de_ix (de_v (pv 0)) (de_op op_sub subL (de_ix (de_v (pv 1)) de_int) de_int))))) da_nil)))))), ?_⟩
  rintro args Q ⟨c, xs, a, rfl, ha, hl, hx, q⟩
  have h0 : ∀ x ∈ xs, ∃ h r, xs = h :: r ∧ 1 ≤ h ∧ h ≤ c.length := fun x hx0 => by
    cases xs with
    | nil => cases hx0
    | cons h r => exact ⟨h, r, rfl, hx h (by simp)⟩
  rcases ha with rfl | rfl
  all_goals
    refine lcM (fun (i : Nat) => PyData.int (i : Int)) xs (fun x => .bool (decide (c.getD (x - 1) 0 = c.getD (xs.headD 1 - 1) 0))) rfl (Nat.le_trans hl (by decide)) (fun x hxx Qy q => ?_) ?_ mono_gN
    · obtain ⟨hd, r, e, g1, g2⟩ := h0 x hxx
      have ⟨g3, g4⟩ := hx x hxx
      refine ⟨_, atI_lN (i := x - 1) (by omega) (by omega), .int ((hd : Nat) : Int), by rw [e]; exact atI_lN (c := hd :: r) (i := 0) (Nat.succ_pos _) rfl, _, atI_lN (i := hd - 1) (by omega) (by omega), ?_⟩
      have e2 : xs.headD 1 = hd := by rw [e]; rfl
      rw [e2] at q
      have e3 : decide (((c.getD (x - 1) 0 : Nat) : Int) = ((c.getD (hd - 1) 0 : Nat) : Int)) = decide (c.getD (x - 1) 0 = c.getD (hd - 1) 0) := decide_eq_decide.mpr (by omega)
      rw [← e3] at q
      show Qy (.bool (false ^^ _))
      rw [Bool.false_xor]
      exact q
    · exact ⟨xs.map fun x => decide (c.getD (x - 1) 0 = c.getD (xs.headD 1 - 1) 0), by rw [List.map_map]; rfl, by rw [all_mono]; exact q⟩
def firstR (l : Nat) (c : List Nat) : Option (List Nat) := (rowsS l c.length).find? (mono c)
theorem rowsS_in {l m : Nat} {r : List Nat} (hl : 2 ≤ l) (h : r ∈ rowsS l m) : r.length = l ∧ ∀ x ∈ r, 1 ≤ x ∧ x ≤ m := by
  obtain ⟨a, d, h1, h2, h3, rfl⟩ := (mem_rowsL hl).mp (srtE_mem.mp h)
  refine ⟨rowAt_len _ _ _, fun x hx => ?_⟩
  obtain ⟨i, hi, rfl⟩ := List.mem_map.mp hx
  have hi := List.mem_range.mp hi
  have := Nat.mul_le_mul_right d (show i ≤ l - 1 by omega)
  omega
def dsp_first_found : Dsp := fun args Q => ∃ (l : Nat) (c : List Nat), args = [.d (.int l), .d (tN c)] ∧ 2 ≤ l ∧ l ≤ 60 ∧ c.length ≤ 1000 ∧ Q (.d (oD tN (firstR l c)))
abbrev Ok_first_found (P : Program) (w : World) (K : PySem.W.Frag) (mg : Str → Option Value) (base : Heap) (a : Addr) (fd : FuncData) : Prop := FnG P w K mg base 3 a fd ["shape", "coloring"] (spL () dsp_first_found)
theorem ok_first_found {a_first_found : Addr} {d_first_found : FuncData} {a_shape_tuples : Addr} {d_shape_tuples : FuncData} {a_is_of_one_color : Addr} {d_is_of_one_color : FuncData} (D_first_found : Df_first_found K mg a_first_found d_first_found) (D_shape_tuples : Df_shape_tuples K mg a_shape_tuples d_shape_tuples) (G_shape_tuples : Ok_shape_tuples P w K mg base a_shape_tuples d_shape_tuples) (D_is_of_one_color : Df_is_of_one_color K mg a_is_of_one_color d_is_of_one_color) (G_is_of_one_color : Ok_is_of_one_color P w K mg base a_is_of_one_color d_is_of_one_color) (B : Bl mg) : Ok_first_found P w K mg base a_first_found d_first_found := by
  refine dfn D_first_found.F sc_first_found (fun args Q h => by (repeat obtain ⟨_, h⟩ := h) <;> (subst_vars; rfl)) (fun cdv A outer s H E F0 S0 hg hr => ?_)
  have hrshape_tuples : Room 2 _ := hr.mono (by decide)
  have hris_of_one_color : Room 1 _ := hr.mono (by decide)
  refine ⟨_, (dss_cons (ds_for (g := (gName 2)) (G := (gN 2)) (vs := [2]) (di_seq (de_frz (de_call (ms := []) hg D_shape_tuples G_shape_tuples hrshape_tuples (by rfl) (da_cons (de_v (pv 0)) (da_cons (de_cr lenL (pe_callB cr_len (by rfl) B.len (by decide +kernel) (DA.pa (da_cons (de_v (pv 1)) da_nil)))) da_nil))))) (pg_name (i := 2) sc_first_found.nd rfl (.inl rfl)) gl_name 
      (dss_one (ds_if (dt_tru (de_call (ms := []) hg D_is_of_one_color G_is_of_one_color hris_of_one_color (by rfl) (da_cons (de_v (pv 1)) (da_cons (de_v (pv 2)) da_nil)))) (dss_one (ds_ret (de_v (pv 2)))) dss_nil)))
    (dss_one (ds_ret de_non))), ?_⟩
  rintro args Q ⟨l, c, rfl, hl, hl2, hc, q⟩
  refine ⟨l, c.length, by rw [List.length_map], hl, hl2, hc, ?_⟩
  refine forT tN (rowsS l c.length) rfl rfl (fun pre ρ => ∃ v2, ρ = [some (.d (.int l)), some (.d (tN c)), v2] ∧ ∀ r ∈ pre, mono c r = false) ⟨none, rfl, fun r h => nomatch h⟩ ?_ ?_
  · rintro pre r post ρ' e ⟨v2, rfl, hp⟩
    have ⟨r1, r2⟩ := rowsS_in hl (show r ∈ rowsS l c.length by rw [e]; simp)
    refine ⟨c, r, _, rfl, .inl rfl, by omega, r2, ?_⟩
    refine ⟨fun hm => ?_, fun hm => ?_⟩
    · have e2 : firstR l c = some r := by
        unfold firstR
        rw [e, List.find?_append, List.find?_eq_none.mpr (fun x hx => by rw [hp x hx]; exact Bool.false_ne_true), Option.none_or, List.find?_cons_of_pos hm]
      rw [e2] at q
      exact q
    · refine ⟨_, rfl, fun x hx => ?_⟩
      rcases List.mem_append.mp hx with h | h
      · exact hp x h
      · rw [List.mem_singleton.mp h]; exact hm
  · rintro ρ' ⟨v2, rfl, hp⟩
    have e2 : firstR l c = none := List.find?_eq_none.mpr (fun x hx => by rw [hp x hx]; exact Bool.false_ne_true)
    rw [e2] at q
    exact q
def dsp_is_free_of : Dsp := fun args Q => ∃ (l : Nat) (c : List Nat), args = [.d (.int l), .d (tN c)] ∧ 2 ≤ l ∧ l ≤ 60 ∧ c.length ≤ 1000 ∧ Q (.d (.bool (firstR l c).isNone))
abbrev Ok_is_free_of (P : Program) (w : World) (K : PySem.W.Frag) (mg : Str → Option Value) (base : Heap) (a : Addr) (fd : FuncData) : Prop := FnG P w K mg base 4 a fd ["shape", "coloring"] (spL () dsp_is_free_of)
theorem ok_is_free_of {a_is_free_of : Addr} {d_is_free_of : FuncData} {a_first_found : Addr} {d_first_found : FuncData} (D_is_free_of : Df_is_free_of K mg a_is_free_of d_is_free_of) (D_first_found : Df_first_found K mg a_first_found d_first_found) (G_first_found : Ok_first_found P w K mg base a_first_found d_first_found) (B : Bl mg) : Ok_is_free_of P w K mg base a_is_free_of d_is_free_of := by
  refine dfn D_is_free_of.F sc_is_free_of (fun args Q h => by (repeat obtain ⟨_, h⟩ := h) <;> (subst_vars; rfl)) (fun cdv A outer s H E F0 S0 hg hr => ?_)
  have hrfirst_found : Room 3 _ := hr.mono (by decide)
  refine ⟨_, (dss_one (ds_ret (de_cmp op_isU (isPL false) (de_call (ms := []) hg D_first_found G_first_found hrfirst_found (by rfl) (da_cons (de_v (pv 0)) (da_cons (de_v (pv 1)) da_nil))) de_non))), ?_⟩
  rintro args Q ⟨l, c, rfl, hl, hl2, hc, q⟩
  refine ⟨l, c, rfl, hl, hl2, hc, ?_⟩
  cases e : firstR l c with
  | none => rw [e] at q; exact q
  | some r => rw [e] at q; exact q
/-- a line -/
def lineOf (t : Nat) (s : List Nat) : List (List Nat) := (List.range t).map fun x => putW t x s
def linesS (t n : Nat) : List (List (List Nat)) := srtE fN (((wds (t + 1) n).filter fun w => decide (t ∈ w)).map (lineOf t))
def dsp_line_of_stars : Dsp := fun args Q => ∃ (t : Nat) (w : List Nat), args = [.d (.int t), .d (tN w)] ∧ t ≤ 100 ∧ w.length ≤ 100 ∧ Q (.d (fN (lineOf t w)))
abbrev Ok_line_of_stars (P : Program) (w : World) (K : PySem.W.Frag) (mg : Str → Option Value) (base : Heap) (a : Addr) (fd : FuncData) : Prop := FnG P w K mg base 1 a fd ["t", "stars"] (spL () dsp_line_of_stars)
theorem ok_line_of_stars {a_line_of_stars : Addr} {d_line_of_stars : FuncData} (D_line_of_stars : Df_line_of_stars K mg a_line_of_stars d_line_of_stars) (B : Bl mg) : Ok_line_of_stars P w K mg base a_line_of_stars d_line_of_stars := by
  refine dfn D_line_of_stars.F sc_line_of_stars (fun args Q h => by (repeat obtain ⟨_, h⟩ := h) <;> (subst_vars; rfl)) (fun cdv A outer s H E F0 S0 hg hr => ?_)
  refine ⟨_, (dss_one (ds_ret (de_cr tupL (pe_callTy (call_tuple_ofK K rfl) (by rfl) B.tuple (by decide +kernel) (DA.pa (da_cons (de_lc (own := [("put", 2)]) (g := (gName 2)) (G := (gN 2)) (t := dYes) sc_line_of_stars.nd (di_range1 (by rfl) B.range (da_cons (de_v (pv 0)) da_nil)) (blkOk_by (N := N_line_of_stars) (sc := defScope s_line_of_stars) (by decide +kernel)) gl_name (fun _ _ _ _ _ => (pg_name (i := 2) sc_line_of_stars.nd rfl (.inr rfl))) (fun _ _ _ _ _ => dts_nil) (fun _ _ _ _ _ => (de_cr tupL (pe_callTy (call_tuple_ofK K rfl) (by rfl) B.tuple (by decide +kernel) (DA.pa (da_cons (de_lc (own := [("letter", 3)]) (g := (gName 3)) (G := (gN 3)) (t := dYes) sc_line_of_stars.nd (di_seq (de_v (pv 1))) (blkOk_by (N := N_line_of_stars) (by show blkC _ (relS _ (defScope s_line_of_stars)) _ _ = true; decide +kernel)) gl_name (fun _ _ _ _ _ => (pg_name (i := 3) sc_line_of_stars.nd rfl (.inl rfl))) (fun _ _ _ _ _ => dts_nil) (fun _ _ _ _ _ => (de_ifExp (dt_cmp (op_eqP hr.units) (eqPL false) (de_v (pv 3)) (de_v (pv 0))) (de_v (pv 2)) (de_v (pv 3))))) da_nil)))))) da_nil)))))), ?_⟩
  rintro args Q ⟨t, w, rfl, ht, hw, q⟩
  refine ⟨⟨by omega, by omega⟩, lcM (fun (i : Nat) => PyData.int (i : Int)) (List.range t) (fun x => tN (putW t x w)) (by rw [Int.toNat_natCast]; exact rgD0 t) (by rw [List.length_range]; exact Nat.le_trans ht (by decide)) (fun x hx Qy q => ?_) ?_ mono_gN⟩
  · refine lcM (fun (i : Nat) => PyData.int (i : Int)) w (fun y => .int ((if y = t then x else y : Nat) : Int)) rfl (Nat.le_trans hw (by decide)) (fun y hy Qz q => ?_) ?_ mono_gN
    · refine ⟨fun h => ?_, fun h => ?_⟩
      · rw [Bool.false_xor, decide_eq_true_eq] at h
        rw [if_pos (by omega)] at q; exact q
      · rw [Bool.false_xor, decide_eq_false_iff_not] at h
        rw [if_neg (by omega)] at q; exact q
    · unfold putW tN at q
      rw [List.map_map] at q
      exact q
  · unfold fN lineOf at q
    rw [List.map_map] at q
    exact q
end
end K47
namespace K47
open PySem L2 Gk Dl Ca
theorem lines_in {t n : Nat} {l : List (List Nat)} (h : l ∈ linesS t n) : ∃ s, s ∈ wds (t + 1) n ∧ t ∈ s ∧ l = lineOf t s := by
  obtain ⟨s, hs, rfl⟩ := List.mem_map.mp (srtE_mem.mp h)
  obtain ⟨h1, h2⟩ := List.mem_filter.mp hs
  exact ⟨s, h1, of_decide_eq_true h2, rfl⟩
theorem line_words {t n : Nat} {s w : List Nat} (hs : s ∈ wds (t + 1) n) (hw : w ∈ lineOf t s) : w ∈ wds t n := by
  obtain ⟨x, hx, rfl⟩ := List.mem_map.mp hw
  exact putW_mem (List.mem_range.mp hx) hs
theorem wpl_lt {t n : Nat} {w : List Nat} (h : w ∈ wds t n) : wpl t w < t ^ n := by
  have := (List.getElem?_eq_some_iff.mp (wds_at t n w h)).1
  rwa [wds_len] at this
theorem sum_le {t : Nat} : ∀ {w : List Nat}, (∀ x ∈ w, x < t) → w.sum ≤ w.length * (t - 1)
  | [], _ => by simp
  | x :: w, h => by
    have := sum_le (t := t) (w := w) fun y hy => h y (by simp [hy])
    have := h x (by simp)
    rw [List.sum_cons, List.length_cons, Nat.succ_mul]
    omega
def firstLn (t n : Nat) (row : List Nat) : Option (List (List Nat)) := (linesS t n).find? fun l => mono row (l.map fun w => wpl t w + 1)
section
variable {P : Program} {w : World} {K : PySem.W.Frag} {mg : Str → Option Value} {base : Heap}
def dsp_lines_of_words : Dsp := fun args Q => ∃ (t n : Nat), args = [.d (.int t), .d (.int n)] ∧ 1 ≤ t ∧ t ≤ 5 ∧ n ≤ 4 ∧ Q (.d (.tuple ((linesS t n).map fN)))
abbrev Ok_lines_of_words (P : Program) (w : World) (K : PySem.W.Frag) (mg : Str → Option Value) (base : Heap) (a : Addr) (fd : FuncData) : Prop := FnG P w K mg base 2 a fd ["t", "n"] (spL () dsp_lines_of_words)
theorem ok_lines_of_words {a_lines_of_words : Addr} {d_lines_of_words : FuncData} {a_words_of : Addr} {d_words_of : FuncData} {a_line_of_stars : Addr} {d_line_of_stars : FuncData} (D_lines_of_words : Df_lines_of_words K mg a_lines_of_words d_lines_of_words) (D_words_of : Df_words_of K mg a_words_of d_words_of) (G_words_of : Ok_words_of P w K mg base a_words_of d_words_of) (D_line_of_stars : Df_line_of_stars K mg a_line_of_stars d_line_of_stars) (G_line_of_stars : Ok_line_of_stars P w K mg base a_line_of_stars d_line_of_stars) (B : Bl mg) : Ok_lines_of_words P w K mg base a_lines_of_words d_lines_of_words := by
  refine dfn D_lines_of_words.F sc_lines_of_words (fun args Q h => by (repeat obtain ⟨_, h⟩ := h) <;> (subst_vars; rfl)) (fun cdv A outer s H E F0 S0 hg hr => ?_)
  have hrwords_of : Room 1 _ := hr.mono (by decide)
  have hrline_of_stars : Room 1 _ := hr.mono (by decide)
  refine ⟨_, (dss_one (ds_ret (de_cr tupL (pe_callTy (call_tuple_ofK K rfl) (by rfl) B.tuple (by decide +kernel) (DA.pa (da_cons (de_cr sortDL (pe_callB (cr_sortedU rfl hr.units) (by rfl) B.sorted (by decide +kernel) (DA.pa (da_cons (de_lc (own := [("stars", 2)]) (g := (gName 2)) (G := (gN 2)) (t := _) sc_lines_of_words.nd (di_seq (de_call (ms := []) hg D_words_of G_words_of hrwords_of (by rfl) (da_cons (de_op op_addU addL (de_v (pv 0)) de_int) (da_cons (de_v (pv 1)) da_nil)))) (blkOk_by (N := N_lines_of_words) (sc := defScope s_lines_of_words) (by decide +kernel)) gl_name (fun _ _ _ _ _ => (pg_name (i := 2) sc_lines_of_words.nd rfl (.inl rfl))) (fun _ _ _ _ _ => (dts_one (dt_cmp (op_inP hr.units) (inPL false) (de_v (pv 0)) (de_v (pv 2))))) (fun _ _ _ _ _ => (de_call (ms := []) hg D_line_of_stars G_line_of_stars hrline_of_stars (by rfl) (da_cons (de_v (pv 0)) (da_cons (de_v (pv 2)) da_nil))))) da_nil)))) da_nil)))))), ?_⟩
  rintro args Q ⟨t, n, rfl, ht, ht2, hn, q⟩
  have pw := pow_small (t := t + 1) (n := n) (by omega) (by omega)
  refine ⟨t + 1, n, by rfl, by omega, by omega, ?_⟩
  refine lcT tN (wds (t + 1) n) (fun w => decide (t ∈ w)) (fun w => fN (lineOf t w)) rfl (by rw [wds_len]; exact Nat.le_trans pw (by decide)) (fun w hw Qy Qn q1 q2 => ?_) ?_
  · have wl := (mem_wds.mp hw).1
    refine ⟨Nat.zero_le _, fun h => ?_, fun h => ?_⟩
    · rw [Bool.false_xor, any_nat] at h
      exact ⟨t, w, rfl, by omega, by omega, q1 h⟩
    · rw [Bool.false_xor, any_nat] at h
      exact q2 h
  · delta dNil
    refine sortD_fN (x := .l .mine _) (xs := ((wds (t + 1) n).filter fun w => decide (t ∈ w)).map (lineOf t)) (by rw [List.map_map]; rfl) (fun a ha => ?_) ?_
    · obtain ⟨s, _, rfl⟩ := List.mem_map.mp ha
      intro e
      have := congrArg List.length e
      simp [lineOf] at this
      omega
    · exact q
def dsp_first_line : Dsp := fun args Q => ∃ (t n : Nat) (row : List Nat), args = [.d (.int t), .d (.int n), .d (tN row)] ∧ 1 ≤ t ∧ t ≤ 5 ∧ n ≤ 4 ∧ row.length = t ^ n ∧ Q (.d (oD fN (firstLn t n row)))
abbrev Ok_first_line (P : Program) (w : World) (K : PySem.W.Frag) (mg : Str → Option Value) (base : Heap) (a : Addr) (fd : FuncData) : Prop := FnG P w K mg base 3 a fd ["t", "n", "row"] (spL () dsp_first_line)
theorem ok_first_line {a_first_line : Addr} {d_first_line : FuncData} {a_is_of_one_color : Addr} {d_is_of_one_color : FuncData} {a_lines_of_words : Addr} {d_lines_of_words : FuncData} {a_word_place : Addr} {d_word_place : FuncData} (D_first_line : Df_first_line K mg a_first_line d_first_line) (D_is_of_one_color : Df_is_of_one_color K mg a_is_of_one_color d_is_of_one_color) (G_is_of_one_color : Ok_is_of_one_color P w K mg base a_is_of_one_color d_is_of_one_color) (D_lines_of_words : Df_lines_of_words K mg a_lines_of_words d_lines_of_words) (G_lines_of_words : Ok_lines_of_words P w K mg base a_lines_of_words d_lines_of_words) (D_word_place : Df_word_place K mg a_word_place d_word_place) (G_word_place : Ok_word_place P w K mg base a_word_place d_word_place) (B : Bl mg) : Ok_first_line P w K mg base a_first_line d_first_line := by
  refine dfn D_first_line.F sc_first_line (fun args Q h => by (repeat obtain ⟨_, h⟩ := h) <;> (subst_vars; rfl)) (fun cdv A outer s H E F0 S0 hg hr => ?_)
  have hris_of_one_color : Room 1 _ := hr.mono (by decide)
  have hrlines_of_words : Room 2 _ := hr.mono (by decide)
  have hrword_place : Room 1 _ := hr.mono (by decide)
  refine ⟨_, (dss_cons (ds_for (g := (gName 3)) (G := (gN 3)) (vs := [3]) (di_seq (de_frz (de_call (ms := []) hg D_lines_of_words G_lines_of_words hrlines_of_words (by rfl) (da_cons (de_v (pv 0)) (da_cons (de_v (pv 1)) da_nil))))) (pg_name (i := 3) sc_first_line.nd rfl (.inl rfl)) gl_name 
      (dss_one (ds_if (dt_tru (de_call (ms := []) hg D_is_of_one_color G_is_of_one_color hris_of_one_color (by rfl) (da_cons (de_v (pv 2)) (da_cons (de_lc (own := [("word", 4)]) (g := (gName 4)) (G := (gN 4)) (t := dYes) sc_first_line.nd (di_seq (de_v (pv 3))) (blkOk_by (N := N_first_line) (sc := defScope s_first_line) (by decide +kernel)) gl_name (fun _ _ _ _ _ => (pg_name (i := 4) sc_first_line.nd rfl (.inl rfl))) (fun _ _ _ _ _ => dts_nil) (fun _ _ _ _ _ => (de_op op_addU addL (de_call (ms := []) hg D_word_place G_word_place hrword_place (by rfl) (da_cons (de_v (pv 0)) (da_cons (de_v (pv 4)) da_nil))) de_int))) da_nil)))) (dss_one (ds_ret (de_v (pv 3)))) dss_nil)))
    (dss_one (ds_ret de_non))), ?_⟩
  rintro args Q ⟨t, n, row, rfl, ht, ht2, hn, hr, q⟩
  refine ⟨t, n, by rfl, ht, ht2, hn, ?_⟩
  refine forT fN (linesS t n) rfl rfl (fun pre ρ => ∃ v2 v3, ρ = [some (.d (.int t)), some (.d (.int n)), some (.d (tN row)), v2, v3] ∧ ∀ l ∈ pre, mono row (l.map fun w => wpl t w + 1) = false) ⟨none, none, rfl, fun r h => nomatch h⟩ ?_ ?_
  · rintro pre l post ρ' e ⟨v2, v3, rfl, hp⟩
    obtain ⟨s, hs, hts, hl⟩ := lines_in (show l ∈ linesS t n by rw [e]; simp)
    have ll : l.length = t := by rw [hl]; simp [lineOf]
    refine lcM tN l (fun w => .int ((wpl t w + 1 : Nat) : Int)) rfl (by rw [ll]; exact Nat.le_trans ht2 (by decide)) (fun w hw Qy q => ⟨t, w, rfl, by omega, q⟩) ?_ mono_gN
    refine ⟨row, l.map fun w => wpl t w + 1, _, rfl, .inr (by unfold lN; rw [List.map_map]; rfl), by rw [List.length_map]; omega, fun x hx => ?_, ?_⟩
    · obtain ⟨w, hw, rfl⟩ := List.mem_map.mp hx
      rw [hl] at hw
      have := wpl_lt (line_words hs hw)
      omega
    · refine ⟨fun hm => ?_, fun hm => ?_⟩
      · have e2 : firstLn t n row = some l := by
          unfold firstLn
          rw [e, List.find?_append, List.find?_eq_none.mpr (fun x hx => by rw [hp x hx]; exact Bool.false_ne_true), Option.none_or]
          exact List.find?_cons_of_pos hm
        rw [e2] at q
        exact q
      · refine ⟨_, _, rfl, fun x hx => ?_⟩
        rcases List.mem_append.mp hx with h | h
        · exact hp x h
        · rw [List.mem_singleton.mp h]; exact hm
  · rintro ρ' ⟨v2, v3, rfl, hp⟩
    have e2 : firstLn t n row = none := List.find?_eq_none.mpr (fun x hx => by rw [hp x hx]; exact Bool.false_ne_true)
    rw [e2] at q
    exact q
def dsp_row_colors : Dsp := fun args Q => ∃ (t n : Nat) (c : List Nat), args = [.d (.int t), .d (.int n), .d (tN c)] ∧ t ≤ 5 ∧ n ≤ 4 ∧ n * (t - 1) < c.length ∧ Q (.d (tN ((wds t n).map fun w => c.getD w.sum 0)))
abbrev Ok_row_colors (P : Program) (w : World) (K : PySem.W.Frag) (mg : Str → Option Value) (base : Heap) (a : Addr) (fd : FuncData) : Prop := FnG P w K mg base 2 a fd ["t", "n", "coloring"] (spL () dsp_row_colors)
theorem ok_row_colors {a_row_colors : Addr} {d_row_colors : FuncData} {a_words_of : Addr} {d_words_of : FuncData} {a_word_number : Addr} {d_word_number : FuncData} (D_row_colors : Df_row_colors K mg a_row_colors d_row_colors) (D_words_of : Df_words_of K mg a_words_of d_words_of) (G_words_of : Ok_words_of P w K mg base a_words_of d_words_of) (D_word_number : Df_word_number K mg a_word_number d_word_number) (G_word_number : Ok_word_number P w K mg base a_word_number d_word_number) (B : Bl mg) : Ok_row_colors P w K mg base a_row_colors d_row_colors := by
  refine dfn D_row_colors.F sc_row_colors (fun args Q h => by (repeat obtain ⟨_, h⟩ := h) <;> (subst_vars; rfl)) (fun cdv A outer s H E F0 S0 hg hr => ?_)
  have hrwords_of : Room 1 _ := hr.mono (by decide)
  have hrword_number : Room 1 _ := hr.mono (by decide)
  refine ⟨_, (dss_one (ds_ret (de_cr tupL (pe_callTy (call_tuple_ofK K rfl) (by rfl) B.tuple (by decide +kernel) (DA.pa (da_cons (de_lc (own := [("word", 3)]) (g := (gName 3)) (G := (gN 3)) (t := dYes) sc_row_colors.nd (di_seq (de_call (ms := []) hg D_words_of G_words_of hrwords_of (by rfl) (da_cons (de_v (pv 0)) (da_cons (de_v (pv 1)) da_nil)))) (blkOk_by (N := N_row_colors) (sc := defScope s_row_colors) (by decide +kernel)) gl_name (fun _ _ _ _ _ => (pg_name (i := 3) sc_row_colors.nd rfl (.inl rfl))) (fun _ _ _ _ _ => dts_nil) (fun _ _ _ _ _ => (de_ix (de_v (pv 2)) (de_op op_sub subL (de_call (ms := []) hg D_word_number G_word_number hrword_number (by rfl) (da_cons (de_v (pv 3)) da_nil)) de_int)))) da_nil)))))), ?_⟩
  rintro args Q ⟨t, n, c, rfl, ht, hn, hc, q⟩
  have pw := pow_small (t := t) (n := n) (by omega) (by omega)
  refine ⟨t, n, by rfl, by omega, by omega, ?_⟩
  refine lcM tN (wds t n) (fun w => .int ((c.getD w.sum 0 : Nat) : Int)) rfl (by rw [wds_len]; exact Nat.le_trans pw (by decide)) (fun w hw Qy q => ?_) ?_ mono_gN
  · have ⟨wl, wx⟩ := mem_wds.mp hw
    have := sum_le wx
    rw [wl] at this
    exact ⟨w, rfl, _, atI_lN (i := w.sum) (by omega) (by omega), q⟩
  · unfold tN at q
    rw [List.map_map] at q
    exact q
def dsp__law_lines : Dsp := fun args Q => ∃ (t n : Nat), args = [.d (.int t), .d (.int n)] ∧ 1 ≤ t ∧ t ≤ 5 ∧ n ≤ 4 ∧ Q (.l .mine ((linesS t n).map fN))
abbrev Ok__law_lines (P : Program) (w : World) (K : PySem.W.Frag) (mg : Str → Option Value) (base : Heap) (a : Addr) (fd : FuncData) : Prop := FnG P w K mg base 2 a fd ["t", "n"] (spL () dsp__law_lines)
theorem ok__law_lines {a__law_lines : Addr} {d__law_lines : FuncData} {a__law_words : Addr} {d__law_words : FuncData} (D__law_lines : Df__law_lines K mg a__law_lines d__law_lines) (D__law_words : Df__law_words K mg a__law_words d__law_words) (G__law_words : Ok__law_words P w K mg base a__law_words d__law_words) (B : Bl mg) : Ok__law_lines P w K mg base a__law_lines d__law_lines := by
  refine dfn D__law_lines.F sc__law_lines (fun args Q h => by (repeat obtain ⟨_, h⟩ := h) <;> (subst_vars; rfl)) (fun cdv A outer s H E F0 S0 hg hr => ?_)
  have hr_law_words : Room 1 _ := hr.mono (by decide)
  refine ⟨_, (dss_cons (ds_set (i := 2) sc__law_lines.nd rfl (.inl rfl) (de_lst dd_nil))
    (dss_cons (ds_for (g := (gName 3)) (G := (gN 3)) (vs := [3]) (di_seq (de_frz (de_call (ms := []) hg D__law_words G__law_words hr_law_words (by rfl) (da_cons (de_op op_addU addL (de_v (pv 0)) de_int) (da_cons (de_v (pv 1)) da_nil))))) (pg_name (i := 3) sc__law_lines.nd rfl (.inr rfl)) gl_name 
      (dss_one (ds_if (dt_cmp (op_inP hr.units) (inPL false) (de_v (pv 0)) (de_v (pv 3))) (dss_one (ds_app (ps_expr (pe_bm PySem.F.plainAttrs_list PySem.F.slot_list_append PySem.F.type_list_append mt_append (pv 2) (pa_cons (DE.pe (de_cr tupL (pe_callTy (call_tuple_ofK K rfl) (by rfl) B.tuple (by decide +kernel) (DA.pa (da_cons (de_lc (own := [("x", 4)]) (g := (gName 4)) (G := (gN 4)) (t := dYes) sc__law_lines.nd (di_range1 (by rfl) B.range (da_cons (de_v (pv 0)) da_nil)) (blkOk_by (N := N__law_lines) (sc := defScope s__law_lines) (by decide +kernel)) gl_name (fun _ _ _ _ _ => (pg_name (i := 4) sc__law_lines.nd rfl (.inr rfl))) (fun _ _ _ _ _ => dts_nil) (fun _ _ _ _ _ => (de_cr tupL (pe_callTy (call_tuple_ofK K rfl) (by rfl) B.tuple (by decide +kernel) (DA.pa (da_cons (de_lc (own := [("y", 5)]) (g := (gName 5)) (G := (gN 5)) (t := dYes) sc__law_lines.nd (di_seq (de_v (pv 3))) (blkOk_by (N := N__law_lines) (by show blkC _ (relS _ (defScope s__law_lines)) _ _ = true; decide +kernel)) gl_name (fun _ _ _ _ _ => (pg_name (i := 5) sc__law_lines.nd rfl (.inl rfl))) (fun _ _ _ _ _ => dts_nil) (fun _ _ _ _ _ => (de_ifExp (dt_cmp (op_eqP hr.units) (eqPL false) (de_v (pv 5)) (de_v (pv 0))) (de_v (pv 4)) (de_v (pv 5))))) da_nil)))))) da_nil))))) pa_nil))))) dss_nil)))
    (dss_one (ds_ret (de_cr sortDL (pe_callB (cr_sortedU rfl hr.units) (by rfl) B.sorted (by decide +kernel) (DA.pa (da_cons (de_v (pv 2)) da_nil)))))))), ?_⟩
  rintro args Q ⟨t, n, rfl, ht, ht2, hn, q⟩
  have pw := pow_small (t := t + 1) (n := n) (by omega) (by omega)
  refine ⟨t + 1, n, by rfl, by omega, by omega, ?_⟩
  refine forT tN (wds (t + 1) n) rfl rfl (fun pre ρ => ∃ v3, ρ = [some (.d (.int t)), some (.d (.int n)), some (.l .mine (((pre.filter fun w => decide (t ∈ w)).map (lineOf t)).map fN)), v3, none, none]) ⟨none, rfl⟩ ?_ ?_
  · rintro pre w post ρ' e ⟨v3, rfl⟩
    have wl := (mem_wds.mp (show w ∈ wds (t + 1) n by rw [e]; simp)).1
    refine ⟨Nat.zero_le _, fun h => ?_, fun h => ?_⟩
    · rw [Bool.false_xor, any_nat] at h
      refine ⟨⟨by omega, by omega⟩, lcM (fun (i : Nat) => PyData.int (i : Int)) (List.range t) (fun x => tN (putW t x w)) (by rw [Int.toNat_natCast]; exact rgD0 t) (by rw [List.length_range]; exact Nat.le_trans ht2 (by decide)) (fun x hx Qy q => ?_) ?_ mono_gN⟩
      · refine lcM (fun (i : Nat) => PyData.int (i : Int)) w (fun y => .int ((if y = t then x else y : Nat) : Int)) rfl (by rw [wl]; exact Nat.le_trans hn (by decide)) (fun y hy Qz q => ?_) ?_ mono_gN
        · refine ⟨fun h => ?_, fun h => ?_⟩
          · rw [Bool.false_xor, decide_eq_true_eq] at h
            rw [if_pos (by omega)] at q; exact q
          · rw [Bool.false_xor, decide_eq_false_iff_not] at h
            rw [if_neg (by omega)] at q; exact q
        · unfold putW tN at q
          rw [List.map_map] at q
          exact q
      · refine ⟨?_, some (.d (tN w)), ?_⟩
        · rw [List.length_map, List.length_map]
          have h1 := List.length_filter_le (fun w => decide (t ∈ w)) pre
          have h2 := wds_len (t + 1) n
          have h3 := congrArg List.length e
          rw [List.length_append, List.length_cons] at h3
          exact Nat.lt_of_le_of_lt (show _ ≤ 46656 by omega) (by decide)
        · rw [show (pre ++ [w]).filter (fun w => decide (t ∈ w)) = pre.filter (fun w => decide (t ∈ w)) ++ [w] by simp [List.filter_append, of_decide_eq_true h], List.map_append, List.map_append]
          unfold fN lineOf
          simp only [List.map_map, List.map_cons, List.map_nil]
          rfl
    · rw [Bool.false_xor, any_nat] at h
      refine ⟨some (.d (tN w)), ?_⟩
      rw [show (pre ++ [w]).filter (fun w => decide (t ∈ w)) = pre.filter (fun w => decide (t ∈ w)) by simp [List.filter_append, of_decide_eq_false h]]
      rfl
  · rintro ρ' ⟨v3, rfl⟩
    delta dNil
    refine sortD_fN (x := .l .mine _) (xs := ((wds (t + 1) n).filter fun w => decide (t ∈ w)).map (lineOf t)) rfl (fun a ha => ?_) ?_
    · obtain ⟨s, _, rfl⟩ := List.mem_map.mp ha
      intro e
      have := congrArg List.length e
      simp [lineOf] at this
      omega
    · exact q
def dsp__law_of : Dsp := fun args Q => ∃ (ds : List PyData), args = [.src, .l .old ds] ∧ 1 ≤ ds.length ∧ ds.length ≤ 100 ∧ (∀ d ∈ ds, Q (.d d))
abbrev Ok__law_of (P : Program) (w : World) (K : PySem.W.Frag) (mg : Str → Option Value) (base : Heap) (a : Addr) (fd : FuncData) : Prop := FnG P w K mg base 2 a fd ["source", "some"] (spL () dsp__law_of)
theorem ok__law_of {a__law_of : Addr} {d__law_of : FuncData} {a__law_pick : Addr} {d__law_pick : FuncData} (D__law_of : Df__law_of K mg a__law_of d__law_of) (D__law_pick : Df__law_pick K mg a__law_pick d__law_pick) (G__law_pick : Ok__law_pick P w K mg base a__law_pick d__law_pick) (B : Bl mg) : Ok__law_of P w K mg base a__law_of d__law_of := by
  refine dfn D__law_of.F sc__law_of (fun args Q h => by (repeat obtain ⟨_, h⟩ := h) <;> (subst_vars; rfl)) (fun cdv A outer s H E F0 S0 hg hr => ?_)
  have hr_law_pick : Room 1 _ := hr.mono (by decide)
  refine ⟨_, (dss_one (ds_ret (de_ix (de_v (pv 1)) (de_call (ms := []) hg D__law_pick G__law_pick hr_law_pick (by rfl) (da_cons (de_v (pv 0)) (da_cons (de_cr lenL (pe_callB cr_len (by rfl) B.len (by decide +kernel) (DA.pa (da_cons (de_v (pv 1)) da_nil)))) da_nil)))))), ?_⟩
  rintro args Q ⟨ds, rfl, h1, h2, q⟩
  refine ⟨(ds.length : Int), rfl, by omega, fun i hi => ?_⟩
  have hi : i < ds.length := by omega
  exact ⟨_, atI_nat (List.getElem?_eq_getElem hi), q _ (List.getElem_mem hi)⟩
end
end K47
namespace K47
open PySem L2 Gk Dl Ca
def kW (w : List Nat) : List Key := w.map fun (a : Nat) => Sum.inl (a : Int)
theorem tP_kW (w : List Nat) : tP (kW w) = tN w := by unfold tP kW tN; rw [List.map_map]; rfl
theorem keysOf_kW (w : List Nat) : keysOf (w.map fun (a : Nat) => PyData.int (a : Int)) = some (kW w) := by
  have := keysOf_ints (w.map fun (a : Nat) => (a : Int))
  rw [List.map_map, List.map_map] at this
  exact this
theorem kW_inj : ∀ {a b : List Nat}, kW a = kW b → a = b
  | [], [], _ => rfl
  | [], _ :: _, h => by cases h
  | _ :: _, [], h => by cases h
  | x :: a, y :: b, h => by
    unfold kW at h
    rw [List.map_cons, List.map_cons, List.cons.injEq] at h
    have h1 : (x : Int) = (y : Int) := Sum.inl.inj h.1
    rw [kW_inj (a := a) (b := b) h.2, show x = y by omega]
theorem getK_mem {κ : Type} [DecidableEq κ] {L : List (κ × PyData)} {k : κ} {v : PyData} (h : (k, v) ∈ L) (u : ∀ v', (k, v') ∈ L → v' = v) : getK L k = some v := by
  unfold getK
  cases e : L.find? fun kv => decide (kv.1 = k) with
  | none =>
    have := List.find?_eq_none.mp e _ h
    simp at this
  | some kv =>
    obtain ⟨k', v'⟩ := kv
    have m := List.mem_of_find?_eq_some e
    have d := List.find?_some e
    have d : k' = k := of_decide_eq_true d
    subst d
    rw [u v' m]; rfl
def plK (t n : Nat) : List (List Key × PyData) := (wds t n).zipIdx.map fun p => (kW p.1, .int (p.2 : Int))
theorem plK_nodup (t n : Nat) : ((plK t n).map Prod.fst).Nodup := by
  unfold plK
  rw [List.map_map]
  have e : (wds t n).zipIdx.map (Prod.fst ∘ fun p : List Nat × Nat => (kW p.1, PyData.int (p.2 : Int))) = (wds t n).map kW := by
    rw [show (Prod.fst ∘ fun p : List Nat × Nat => (kW p.1, PyData.int (p.2 : Int))) = kW ∘ Prod.fst from rfl, ← List.map_map, List.zipIdx_map_fst]
  rw [e]
  exact List.Pairwise.map _ (fun a b h e => h (kW_inj e)) (wds_nodup t n)
theorem plK_get {t n : Nat} {w : List Nat} (h : w ∈ wds t n) : getK (plK t n) (kW w) = some (.int ((wpl t w : Nat) : Int)) := by
  refine getK_mem (List.mem_map.mpr ⟨(w, wpl t w), ?_, rfl⟩) fun v' h' => ?_
  · exact List.mem_zipIdx_iff_getElem?.mpr (wds_at t n w h)
  · obtain ⟨⟨w', i⟩, h1, h2⟩ := List.mem_map.mp h'
    have h3 := List.mem_zipIdx_iff_getElem?.mp h1
    simp only [Prod.mk.injEq] at h2
    obtain ⟨h4, h5⟩ := h2
    have h6 := kW_inj h4
    subst h6
    rw [← wds_inj t n i w' h3] at h5
    exact h5.symm
theorem lookV_pl {t n : Nat} {w : List Nat} {ow : Ow} (h : w ∈ wds t n) : lookV (.dt ow (plK t n)) (.d (tN w)) = some (some (.int ((wpl t w : Nat) : Int))) := by
  show (keysOf (w.map fun (a : Nat) => PyData.int (a : Int))).map (getK (plK t n)) = _
  rw [keysOf_kW]
  show some (getK (plK t n) (kW w)) = _
  rw [plK_get h]
/-- the words of a line whose color is not the first one's -/
theorem mono_filter (t : Nat) (row : List Nat) (hd : List Nat) (r : List (List Nat)) :
    mono row ((hd :: r).map fun w => wpl t w + 1) = decide (((hd :: r).filter fun w => !decide (row.getD (wpl t w) 0 = row.getD (wpl t hd) 0)) = []) := by
  unfold mono
  rw [Bool.eq_iff_iff, List.all_eq_true, decide_eq_true_eq, List.filter_eq_nil_iff]
  constructor
  · intro h w hw hh
    have := of_decide_eq_true (h (wpl t w + 1) (List.mem_map.mpr ⟨w, hw, rfl⟩))
    simp at this hh
    exact hh this
  · intro h x hx
    obtain ⟨w, hw, rfl⟩ := List.mem_map.mp hx
    have := h w hw
    simp at this ⊢
    exact this
theorem find_filter {α : Type} (p : α → Bool) : ∀ (l : List α), l.find? p = (l.filter p).head?
  | [] => rfl
  | a :: r => by
    rw [List.find?_cons, List.filter_cons]
    cases p a
    · exact find_filter p r
    · rfl
theorem lines_len {t n : Nat} : (linesS t n).length + t ^ n = (t + 1) ^ n := by
  unfold linesS
  rw [srtE_len, List.length_map, ← star_count t n]
  congr 2
  exact List.filter_congr fun w _ => by simp
theorem line_len (t : Nat) (s : List Nat) : (lineOf t s).length = t := by unfold lineOf; rw [List.length_map, List.length_range]
/-- the row told by a line -/
theorem told_row {t : Nat} (s : List Nat) : (lineOf t s).map (fun w => 1 + w.sum) = rowAt t (baseN t s + 1) (starsN t s) := by
  unfold lineOf rowAt
  rw [List.map_map]
  refine List.map_congr_left fun x _ => ?_
  show 1 + (putW t x s).sum = _
  rw [put_sum]; omega
def rowC (t n : Nat) (c : List Nat) : List Nat := (wds t n).map fun w => c.getD w.sum 0
theorem rowC_at {t n : Nat} {c w : List Nat} (h : w ∈ wds t n) : (rowC t n c).getD (wpl t w) 0 = c.getD w.sum 0 := by
  unfold rowC
  rw [List.getD_eq_getElem?_getD, List.getElem?_map, wds_at t n w h]; rfl
theorem mono_told {t n : Nat} {c s : List Nat} (hs : s ∈ wds (t + 1) n) (ht : 1 ≤ t) : mono (rowC t n c) ((lineOf t s).map fun w => wpl t w + 1) = mono c ((lineOf t s).map fun w => 1 + w.sum) := by
  obtain ⟨hd, r, e⟩ : ∃ hd r, lineOf t s = hd :: r := by
    cases e : lineOf t s with
    | nil => have := line_len t s; rw [e] at this; simp at this; omega
    | cons a b => exact ⟨a, b, rfl⟩
  have hw : ∀ w ∈ lineOf t s, w ∈ wds t n := fun w h => line_words hs h
  unfold mono
  rw [Bool.eq_iff_iff, List.all_eq_true, List.all_eq_true, e]
  rw [e] at hw
  constructor
  · intro h x hx
    obtain ⟨w, hww, rfl⟩ := List.mem_map.mp hx
    have := of_decide_eq_true (h (wpl t w + 1) (List.mem_map.mpr ⟨w, hww, rfl⟩))
    simp only [List.map_cons, List.headD_cons, Nat.add_sub_cancel] at this
    rw [rowC_at (hw w hww), rowC_at (hw hd (by simp))] at this
    simp only [List.map_cons, List.headD_cons, decide_eq_true_eq]
    rw [show 1 + w.sum - 1 = w.sum by omega, show 1 + hd.sum - 1 = hd.sum by omega]
    exact this
  · intro h x hx
    obtain ⟨w, hww, rfl⟩ := List.mem_map.mp hx
    have := of_decide_eq_true (h (1 + w.sum) (List.mem_map.mpr ⟨w, hww, rfl⟩))
    simp only [List.map_cons, List.headD_cons] at this
    rw [show 1 + w.sum - 1 = w.sum by omega, show 1 + hd.sum - 1 = hd.sum by omega] at this
    simp only [List.map_cons, List.headD_cons, decide_eq_true_eq, Nat.add_sub_cancel]
    rw [rowC_at (hw w hww), rowC_at (hw hd (by simp))]
    exact this
theorem free_of {t m : Nat} {c s : List Nat} {n : Nat} (ht : 2 ≤ t) (hs : s ∈ wds (t + 1) n) (hm : t ∈ s) (hc : c.length = m) (hl : n * (t - 1) + 1 ≤ m) (h : mono c ((lineOf t s).map fun w => 1 + w.sum) = true) : (firstR t c).isNone = false := by
  have ⟨sl, sx⟩ := mem_wds.mp hs
  have b := base_le (t := t) (n := n) (by omega) sx
  rw [sl, Nat.mul_comm (t - 1) n] at b
  have p := stars_pos hm
  rw [told_row] at h
  have mem : rowAt t (baseN t s + 1) (starsN t s) ∈ rowsS t c.length := srtE_mem.mpr ((mem_rowsL ht).mpr ⟨_, _, by omega, p, by omega, rfl⟩)
  unfold firstR
  cases e : (rowsS t c.length).find? (mono c) with
  | none => have := List.find?_eq_none.mp e _ mem; rw [h] at this; simp at this
  | some r => rfl
theorem no_first {t n : Nat} {c : List Nat} (ht : 2 ≤ t) (hn : n = 1) (hl : n * (t - 1) + 1 ≤ c.length) (h : firstLn t n (rowC t n c) = none) : firstR t (c.take t) = none := by
  subst hn
  have hlc : (c.take t).length = t := by rw [List.length_take]; omega
  refine List.find?_eq_none.mpr fun r hr => ?_
  rw [hlc] at hr
  obtain ⟨a, d, h1, h2, h3, rfl⟩ := (mem_rowsL ht).mp (srtE_mem.mp hr)
  have hd : d = 1 := by
    cases d with
    | zero => omega
    | succ d =>
      cases d with
      | zero => rfl
      | succ d =>
        have : (t - 1) * 2 ≤ (t - 1) * (d + 1 + 1) := Nat.mul_le_mul_left _ (by omega)
        omega
  subst hd
  have ha : a = 1 := by omega
  subst ha
  have hs : [t] ∈ wds (t + 1) 1 := mem_wds.mpr ⟨rfl, fun x hx => by simp at hx; omega⟩
  have mem : lineOf t [t] ∈ linesS t 1 := srtE_mem.mpr (List.mem_map.mpr ⟨[t], List.mem_filter.mpr ⟨hs, by simp⟩, rfl⟩)
  have := List.find?_eq_none.mp h _ mem
  rw [mono_told hs (by omega), told_row] at this
  have e1 : baseN t [t] = 0 := by unfold baseN; simp
  have e2 : starsN t [t] = 1 := by unfold starsN; simp
  rw [e1, e2] at this
  intro hm
  refine this ?_
  unfold mono at hm ⊢
  rw [List.all_eq_true] at hm ⊢
  have tk : ∀ i, i < t → (c.take t).getD i 0 = c.getD i 0 := fun i hi => by
    rw [List.getD_eq_getElem?_getD, List.getD_eq_getElem?_getD, List.getElem?_take_of_lt hi]
  have hh : (rowAt t (0 + 1) 1).headD 1 - 1 = 0 := by
    unfold rowAt
    cases t with
    | zero => rfl
    | succ t => rw [List.range_succ_eq_map]; rfl
  have hh2 : (rowAt t 1 1).headD 1 - 1 = 0 := hh
  intro x hx
  have := of_decide_eq_true (hm x hx)
  rw [hh2] at this
  rw [hh]
  obtain ⟨i, hi, rfl⟩ := List.mem_map.mp hx
  have hi := List.mem_range.mp hi
  rw [tk _ (by omega), tk _ (by omega)] at this
  exact decide_eq_true this
theorem eqv_nilT (xs : List (List Nat)) : PyData.eqv (.list (xs.map tN)) (.list []) = decide (xs = []) := by
  rw [PyData.eqv, show ([] : List PyData) = ([] : List (List Nat)).map tN from rfl, eqvAll_map tN eqv_tN]
theorem eqv_nilF (xs : List (List (List Nat))) : PyData.eqv (.list (xs.map fN)) (.list []) = decide (xs = []) := by
  rw [PyData.eqv, show ([] : List PyData) = ([] : List (List (List Nat))).map fN from rfl, eqvAll_map fN eqv_fN]
theorem sm_oF {o : Option (List (List Nat))} {k n : Nat} (h : ∀ l, o = some l → Sm (fN l) k n) (hn : 5 ≤ n) : Sm (oD fN o) k n := by
  cases o with
  | none => exact ⟨rfl, Nat.zero_le _, by show wt PyData.none ≤ n; simp only [wt]; omega, rfl⟩
  | some l => exact h l rfl
theorem min_nil (d : PyData) : min d.depth (PyData.list []).depth ≤ 60 := Nat.le_trans (Nat.min_le_right _ _) (by decide)
/-- tallies -/
def tlyR (n k : Nat) : List Nat := (wds 2 n).map fun w => w.sum % k
theorem tly_at {n k : Nat} {w : List Nat} (h : w ∈ wds 2 n) : (tlyR n k).getD (wpl 2 w) 0 = w.sum % k := by
  unfold tlyR
  rw [List.getD_eq_getElem?_getD, List.getElem?_map, wds_at 2 n w h]; rfl
theorem line2 (s : List Nat) : lineOf 2 s = [putW 2 0 s, putW 2 1 s] := rfl
theorem tly_mono {n k : Nat} {s : List Nat} (hs : s ∈ wds 3 n) : mono (tlyR n k) ((lineOf 2 s).map fun w => wpl 2 w + 1) = decide (starsN 2 s % k = 0) := by
  have h0 := putW_mem (t := 2) (x := 0) (by decide) hs
  have h1 := putW_mem (t := 2) (x := 1) (by decide) hs
  rw [line2]
  unfold mono
  simp only [List.map_cons, List.map_nil, List.headD_cons, Nat.add_sub_cancel, List.all_cons, List.all_nil, Bool.and_true, decide_true, Bool.true_and]
  rw [tly_at h0, tly_at h1, put_sum, put_sum]
  simp only [Nat.zero_mul, Nat.one_mul, Nat.add_zero, decide_eq_decide]
  constructor
  · intro h
    have := Nat.sub_mod_eq_zero_of_mod_eq h
    rwa [Nat.add_sub_cancel_left] at this
  · intro h
    rw [Nat.add_mod, h, Nat.add_zero, Nat.mod_mod]
theorem stars_some {n k : Nat} (hk : 1 ≤ k) (h : k ≤ n) : ∃ s, s ∈ wds 3 n ∧ 2 ∈ s ∧ starsN 2 s = k := by
  refine ⟨List.replicate k 2 ++ List.replicate (n - k) 0, mem_wds.mpr ⟨by simp; omega, fun x hx => ?_⟩, ?_, ?_⟩
  · rcases List.mem_append.mp hx with h | h
    · rw [List.eq_of_mem_replicate h]; decide
    · rw [List.eq_of_mem_replicate h]; decide
  · exact List.mem_append_left _ (by rw [List.mem_replicate]; omega)
  · unfold starsN
    rw [List.filter_append, List.filter_replicate, List.filter_replicate]
    simp
theorem tly_none {n k : Nat} (hk : 1 ≤ k) : (firstLn 2 n (tlyR n k)).isNone = decide (n < k) := by
  unfold firstLn
  rw [Bool.eq_iff_iff, Option.isNone_iff_eq_none, List.find?_eq_none, decide_eq_true_eq]
  constructor
  · intro h
    rcases Nat.lt_or_ge n k with g | g
    · exact g
    · obtain ⟨s, h1, h2, h3⟩ := stars_some hk g
      have := h (lineOf 2 s) (srtE_mem.mpr (List.mem_map.mpr ⟨s, List.mem_filter.mpr ⟨h1, by simpa using h2⟩, rfl⟩))
      rw [tly_mono h1, h3] at this
      simp at this
  · intro h l hl
    obtain ⟨s, h1, h2, rfl⟩ := lines_in hl
    rw [tly_mono h1]
    have p := stars_pos h2
    have q := stars_le 2 s
    rw [(mem_wds.mp h1).1] at q
    rw [Nat.mod_eq_of_lt (by omega)]
    simp; omega
theorem nat_ne {a b : Nat} : (true ^^ decide ((a : Int) = (b : Int))) = !decide (a = b) := by
  rw [Bool.true_xor, decide_eq_decide.mpr (Int.ofNat_inj)]
theorem atI_neg {α : Type} {xs : List α} {j : Nat} {i : Int} {v : α} (hi : i = -(j : Int)) (hj : 1 ≤ j) (hl : j ≤ xs.length) (e : xs[xs.length - j]? = some v) : atI xs i = some v := by
  subst hi
  unfold atI ixN
  rw [if_neg (by omega), if_pos (by omega)]
  show xs[(-(j : Int) + (xs.length : Int)).toNat]? = some v
  rw [show (-(j : Int) + (xs.length : Int)).toNat = xs.length - j by omega]
  exact e
theorem told_at {t a d i : Nat} (h : i < t) : (((rowAt t a d).map fun (x : Nat) => PyData.int (x : Int)))[i]? = some (.int ((a + i * d : Nat) : Int)) := by
  unfold rowAt
  rw [List.getElem?_map, List.getElem?_map, List.getElem?_range h]; rfl
theorem merge_same {k : Key} {v : PyData} : ∀ (r : List (Key × PyData)), (∀ p ∈ r, p = (k, v)) → mergeD [(k, v)] r = [(k, v)]
  | [], _ => rfl
  | p :: r, h => by
    have e := h p (by simp)
    subst e
    have : mergeD [(k, v)] ((k, v) :: r) = mergeD (putD [(k, v)] k v) r := rfl
    rw [this, show putD [(k, v)] k v = [(k, v)] by unfold putD; simp]
    exact merge_same r fun q hq => h q (by simp [hq])
theorem merge_one {k : Key} {v : PyData} {kvs : List (Key × PyData)} (h : ∀ p ∈ kvs, p = (k, v)) (hn : kvs ≠ []) : (mergeD [] kvs).length = 1 := by
  cases kvs with
  | nil => exact absurd rfl hn
  | cons p r =>
    have e := h p (by simp)
    subst e
    have : mergeD [] ((k, v) :: r) = mergeD [(k, v)] r := rfl
    rw [this, merge_same r fun q hq => h q (by simp [hq])]; rfl
theorem zip_stars (s : List Nat) : (((putW 2 0 s).zip (putW 2 1 s)).filter fun p => !decide (p.1 = p.2)).length = starsN 2 s := by
  induction s with
  | nil => rfl
  | cons y s ih =>
    unfold putW starsN at *
    rw [List.map_cons, List.map_cons, List.zip_cons_cons, List.filter_cons, List.filter_cons]
    by_cases e : y = 2
    · subst e
      simpa using ih
    · simp only [if_neg e, decide_true, Bool.not_true, Bool.false_eq_true, if_false]
      rw [if_neg (by simpa using e)]
      exact ih
theorem mono_two {t : Nat} {row a b : List Nat} {r : List (List Nat)} (h : mono row ((a :: b :: r).map fun w => wpl t w + 1) = true) : row.getD (wpl t a) 0 = row.getD (wpl t b) 0 := by
  unfold mono at h
  rw [List.all_eq_true] at h
  have := of_decide_eq_true (h (wpl t b + 1) (by simp))
  simpa using this.symm
theorem firstLn_some {t n : Nat} {row : List Nat} {l : List (List Nat)} (h : firstLn t n row = some l) : mono row (l.map fun w => wpl t w + 1) = true := by
  unfold firstLn at h
  have e := List.find?_some h
  exact e
theorem free_line {t n : Nat} {c : List Nat} {l : List (List Nat)} (ht : 2 ≤ t) (hl : n * (t - 1) + 1 ≤ c.length) (h : firstLn t n (rowC t n c) = some l) : (firstR t c).isNone = false := by
  obtain ⟨s, hs, hm, rfl⟩ := lines_in (List.mem_of_find?_eq_some h)
  have : mono (rowC t n c) ((lineOf t s).map fun w => wpl t w + 1) = true := firstLn_some h
  rw [mono_told hs (by omega)] at this
  exact free_of ht hs hm rfl hl this
theorem eqv_lN (xs ys : List Nat) : PyData.eqv (.list (xs.map fun (a : Nat) => PyData.int (a : Int))) (.list (ys.map fun (a : Nat) => PyData.int (a : Int))) = decide (xs = ys) := by
  rw [PyData.eqv, eqvAll_lN]
theorem depth_lN (w : List Nat) (d : PyData) : min (PyData.list (w.map fun (a : Nat) => PyData.int (a : Int))).depth d.depth ≤ 60 := by
  refine Nat.le_trans (Nat.min_le_left _ _) ?_
  rw [PyData.depth]
  have : PyData.depthAll (w.map fun (a : Nat) => PyData.int (a : Int)) ≤ 0 := depthAll_le fun d hd => by
    obtain ⟨x, _, rfl⟩ := List.mem_map.mp hd
    exact Nat.le_refl _
  omega
theorem cut_take {cl : List Nat} {t : Nat} (h : t ≤ cl.length) : cutD (cl.map fun (a : Nat) => PyData.int (a : Int)) none (some (t : Int)) = (cl.take t).map fun (a : Nat) => PyData.int (a : Int) := by
  unfold cutD HT.sIx
  simp only [List.length_map, List.drop_zero, Nat.sub_zero, List.map_take]
  congr 1
  rw [if_neg (by omega), Int.toNat_natCast]
  omega
theorem rowC_len (t n : Nat) (c : List Nat) : (rowC t n c).length = t ^ n := by unfold rowC; rw [List.length_map, wds_len]
theorem tly_len (n k : Nat) : (tlyR n k).length = 2 ^ n := by unfold tlyR; rw [List.length_map, wds_len]
theorem eqv_bl (a b : Bool) : (true ^^ PyData.eqv (.bool a) (.bool b)) = (a ^^ b) := by
  cases a <;> cases b <;> simp [PyData.eqv]
theorem min_bl (b : Bool) (d : PyData) : min (PyData.bool b).depth d.depth ≤ 60 := Nat.le_trans (Nat.min_le_left _ _) (by rw [PyData.depth]; decide)
theorem flat_rep (x : PyData) : ∀ n : Nat, (List.replicate n [x]).flatten = List.replicate n x
  | 0 => rfl
  | n + 1 => by rw [List.replicate_succ, List.replicate_succ, List.flatten_cons, flat_rep x n]; rfl
end K47
namespace K47
open PySem L2 Gk Dl Ca
def Cc (t n : Nat) : Prop := 2 ≤ t ∧ t ≤ 4 ∧ 1 ≤ n ∧ n ≤ 4
def stL (l : List (Option DV)) : Ds := l ++ List.replicate (28 - l.length) none
theorem ne_no {α : Type} [DecidableEq α] {a b : α} {P : Prop} (e : a = b) (h : (true ^^ decide (a = b)) = true) : P := by
  rw [decide_eq_true e] at h; cases h
theorem keyR {P : Ds → Prop} {G : Prop} (R : Ds → Prop) (h : (∀ ρ, R ρ → P ρ) → G) (key : ∀ ρ, R ρ → P ρ) : G := h key
theorem keyT {P : Nat → Nat → Prop} {G : Prop} (h : (∀ t n, Cc t n → P t n) → G) (key : ∀ t n, Cc t n → P t n) : G := h key
section
variable {P : Program} {w : World} {K : PySem.W.Frag} {mg : Str → Option Value} {base : Heap}
abbrev Ok_law (P : Program) (w : World) (K : PySem.W.Frag) (mg : Str → Option Value) (base : Heap) (a : Addr) (fd : FuncData) : Prop := FnG P w K mg base 5 a fd ["script"] (spLaw K)
theorem ok_law {a_law : Addr} {d_law : FuncData} {a_first_found : Addr} {d_first_found : FuncData} {a_is_free_of : Addr} {d_is_free_of : FuncData} {a_words_of : Addr} {d_words_of : FuncData} {a_lines_of_words : Addr} {d_lines_of_words : FuncData} {a_first_line : Addr} {d_first_line : FuncData} {a_tally_row : Addr} {d_tally_row : FuncData} {a_word_number : Addr} {d_word_number : FuncData} {a_line_row : Addr} {d_line_row : FuncData} {a_row_colors : Addr} {d_row_colors : FuncData} {a__law_open_cells : Addr} {d__law_open_cells : FuncData} {a__law_pick : Addr} {d__law_pick : FuncData} {a__law_of : Addr} {d__law_of : FuncData} {a__law_words : Addr} {d__law_words : FuncData} {a__law_lines : Addr} {d__law_lines : FuncData} (D_law : Df_law K mg a_law d_law) (D_first_found : Df_first_found K mg a_first_found d_first_found) (G_first_found : Ok_first_found P w K mg base a_first_found d_first_found) (D_is_free_of : Df_is_free_of K mg a_is_free_of d_is_free_of) (G_is_free_of : Ok_is_free_of P w K mg base a_is_free_of d_is_free_of) (D_words_of : Df_words_of K mg a_words_of d_words_of) (G_words_of : Ok_words_of P w K mg base a_words_of d_words_of) (D_lines_of_words : Df_lines_of_words K mg a_lines_of_words d_lines_of_words) (G_lines_of_words : Ok_lines_of_words P w K mg base a_lines_of_words d_lines_of_words) (D_first_line : Df_first_line K mg a_first_line d_first_line) (G_first_line : Ok_first_line P w K mg base a_first_line d_first_line) (D_tally_row : Df_tally_row K mg a_tally_row d_tally_row) (G_tally_row : Ok_tally_row P w K mg base a_tally_row d_tally_row) (D_word_number : Df_word_number K mg a_word_number d_word_number) (G_word_number : Ok_word_number P w K mg base a_word_number d_word_number) (D_line_row : Df_line_row K mg a_line_row d_line_row) (G_line_row : Ok_line_row P w K mg base a_line_row d_line_row) (D_row_colors : Df_row_colors K mg a_row_colors d_row_colors) (G_row_colors : Ok_row_colors P w K mg base a_row_colors d_row_colors) (D__law_open_cells : Df__law_open_cells K mg a__law_open_cells d__law_open_cells) (G__law_open_cells : Ok__law_open_cells P w K mg base a__law_open_cells d__law_open_cells) (D__law_pick : Df__law_pick K mg a__law_pick d__law_pick) (G__law_pick : Ok__law_pick P w K mg base a__law_pick d__law_pick) (D__law_of : Df__law_of K mg a__law_of d__law_of) (G__law_of : Ok__law_of P w K mg base a__law_of d__law_of) (D__law_words : Df__law_words K mg a__law_words d__law_words) (G__law_words : Ok__law_words P w K mg base a__law_words d__law_words) (D__law_lines : Df__law_lines K mg a__law_lines d__law_lines) (G__law_lines : Ok__law_lines P w K mg base a__law_lines d__law_lines) (B : Bl mg) : Ok_law P w K mg base a_law d_law := by
  refine fnG_of D_law.F sc_law (fun vs H Q E h => by (repeat obtain ⟨_, h⟩ := h) <;> (subst_vars; rfl)) (fun cdv A outer s H vs Q E hg hr h => ?_)
  have hrfirst_found : Room 3 _ := hr.mono (by decide)
  have hris_free_of : Room 4 _ := hr.mono (by decide)
  have hrwords_of : Room 1 _ := hr.mono (by decide)
  have hrlines_of_words : Room 2 _ := hr.mono (by decide)
  have hrfirst_line : Room 3 _ := hr.mono (by decide)
  have hrtally_row : Room 2 _ := hr.mono (by decide)
  have hrword_number : Room 1 _ := hr.mono (by decide)
  have hrline_row : Room 2 _ := hr.mono (by decide)
  have hrrow_colors : Room 2 _ := hr.mono (by decide)
  have hr_law_open_cells : Room 1 _ := hr.mono (by decide)
  have hr_law_pick : Room 1 _ := hr.mono (by decide)
  have hr_law_of : Room 2 _ := hr.mono (by decide)
  have hr_law_words : Room 1 _ := hr.mono (by decide)
  have hr_law_lines : Room 2 _ := hr.mono (by decide)
  obtain ⟨a, ns, rfl, hS, hlen, fin⟩ := h
  refine ⟨_, pss_cons (ps_set (i := 1) sc_law.nd rfl (.inr rfl) (pe_cl D__law_open_cells G__law_open_cells hr_law_open_cells (by rfl) (pa_cons (pv 0) pa_nil))) (law_rest (K := K) fun H0 F0 S0 => (dss_cons (ds_asg (g := (gTup K 2 (gCons (gName 2) (gCons (gName 3) gNil)))) (G := (gT (gC (gN 2) (gC (gN 3) gE)))) (vs := [2, 3]) (gl_tup (gl_cons gl_name (gl_cons gl_name gl_nil)) gn2) (ps_asg (DE.pe (de_call (ms := []) hg D__law_of G__law_of hr_law_of (by rfl) (da_cons (de_v (pv 1)) (da_cons (de_lst (dd_cons (de_tup (dd_cons de_int (dd_cons de_int dd_nil))) (dd_cons (de_tup (dd_cons de_int (dd_cons de_int dd_nil))) (dd_cons (de_tup (dd_cons de_int (dd_cons de_int dd_nil))) (dd_cons (de_tup (dd_cons de_int (dd_cons de_int dd_nil))) (dd_cons (de_tup (dd_cons de_int (dd_cons de_int dd_nil))) (dd_cons (de_tup (dd_cons de_int (dd_cons de_int dd_nil))) (dd_cons (de_tup (dd_cons de_int (dd_cons de_int dd_nil))) (dd_cons (de_tup (dd_cons de_int (dd_cons de_int dd_nil))) (dd_cons (de_tup (dd_cons de_int (dd_cons de_int dd_nil))) (dd_cons (de_tup (dd_cons de_int (dd_cons de_int dd_nil))) dd_nil))))))))))) da_nil)))) (pg_tup rfl (pgs_cons (pg_name (i := 2) sc_law.nd rfl (.inl rfl)) (pgs_cons (pg_name (i := 3) sc_law.nd rfl (.inl rfl)) pgs_nil)))))
    (dss_cons (ds_if (dt_cmp (op_eqP hr.units) (eqPL false) (de_call (ms := []) hg D__law_pick G__law_pick hr_law_pick (by rfl) (da_cons (de_v (pv 1)) (da_cons de_int da_nil))) de_int) (dss_one (ds_asg (g := (gTup K 2 (gCons (gName 2) (gCons (gName 3) gNil)))) (G := (gT (gC (gN 2) (gC (gN 3) gE)))) (vs := [2, 3]) (gl_tup (gl_cons gl_name (gl_cons gl_name gl_nil)) gn2) (ps_asg (DE.pe (de_call (ms := []) hg D__law_of G__law_of hr_law_of (by rfl) (da_cons (de_v (pv 1)) (da_cons (de_lst (dd_cons (de_tup (dd_cons de_int (dd_cons de_int dd_nil))) (dd_cons (de_tup (dd_cons de_int (dd_cons de_int dd_nil))) dd_nil))) da_nil)))) (pg_tup rfl (pgs_cons (pg_name (i := 2) sc_law.nd rfl (.inl rfl)) (pgs_cons (pg_name (i := 3) sc_law.nd rfl (.inl rfl)) pgs_nil)))))) dss_nil)
    (dss_cons (ds_parT (i := 4) (j := 5) (ps_asg (pe_tup (pa_cons (DE.pe (de_call (ms := []) hg D__law_words G__law_words hr_law_words (by rfl) (da_cons (de_v (pv 2)) (da_cons (de_v (pv 3)) da_nil)))) (pa_cons (DE.pe (de_call (ms := []) hg D__law_lines G__law_lines hr_law_lines (by rfl) (da_cons (de_v (pv 2)) (da_cons (de_v (pv 3)) da_nil)))) pa_nil))) (pg_tup rfl (pgs_cons (pg_name (i := 4) sc_law.nd rfl (.inr rfl)) (pgs_cons (pg_name (i := 5) sc_law.nd rfl (.inl rfl)) pgs_nil)))))
    (dss_cons (ds_set (i := 6) sc_law.nd rfl (.inr rfl) (de_cr dictDL (pe_callTy (cr_dictU rfl hr.units) (by rfl) B.dict (by decide +kernel) (DA.pa (da_cons (de_lc (own := [("i", 24), ("word", 25)]) (g := (gTup K 2 (gCons (gName 24) (gCons (gName 25) gNil)))) (G := (gT (gC (gN 24) (gC (gN 25) gE)))) (t := dYes) sc_law.nd (di_enum (by rfl) B.enumerate (da_cons (de_v (pv 4)) da_nil)) (blkOk_by (N := N_law) (sc := defScope s_law) (by decide +kernel)) (gl_tup (gl_cons gl_name (gl_cons gl_name gl_nil)) gn2) (fun _ _ _ _ _ => (pg_tup rfl (pgs_cons (pg_name (i := 24) sc_law.nd rfl (.inl rfl)) (pgs_cons (pg_name (i := 25) sc_law.nd rfl (.inl rfl)) pgs_nil)))) (fun _ _ _ _ _ => dts_nil) (fun _ _ _ _ _ => (de_tup (dd_cons (de_v (pv 25)) (dd_cons (de_v (pv 24)) dd_nil))))) da_nil)))))
    (dss_cons (ds_if (dt_cmp (op_neP hr.units) (eqPL true) (de_cr reprL (pe_callB (cr_repr hg hr.units) (by rfl) B.repr (by decide +kernel) (DA.pa (da_cons (de_lst (dd_cons (de_call (ms := []) hg D_words_of G_words_of hrwords_of (by rfl) (da_cons (de_v (pv 2)) (da_cons (de_v (pv 3)) da_nil))) (dd_cons (de_call (ms := []) hg D_lines_of_words G_lines_of_words hrlines_of_words (by rfl) (da_cons (de_v (pv 2)) (da_cons (de_v (pv 3)) da_nil))) dd_nil))) da_nil)))) (de_cr reprL (pe_callB (cr_repr hg hr.units) (by rfl) B.repr (by decide +kernel) (DA.pa (da_cons (de_lst (dd_cons (de_cr tupL (pe_callTy (call_tuple_ofK K rfl) (by rfl) B.tuple (by decide +kernel) (DA.pa (da_cons (de_v (pv 4)) da_nil)))) (dd_cons (de_cr tupL (pe_callTy (call_tuple_ofK K rfl) (by rfl) B.tuple (by decide +kernel) (DA.pa (da_cons (de_v (pv 5)) da_nil)))) dd_nil))) da_nil))))) (dss_one (ds_ret de_bl)) dss_nil)
    (dss_cons (ds_parT (i := 7) (j := 8) (ps_asg (pe_tup (pa_cons (DE.pe de_int) (pa_cons (DE.pe de_int) pa_nil))) (pg_tup rfl (pgs_cons (pg_name (i := 7) sc_law.nd rfl (.inl rfl)) (pgs_cons (pg_name (i := 8) sc_law.nd rfl (.inl rfl)) pgs_nil)))))
    (dss_cons (ds_for (g := (gName 9)) (G := (gN 9)) (vs := [9]) (di_range1 (by rfl) B.range (da_cons (de_v (pv 3)) da_nil)) (pg_name (i := 9) sc_law.nd rfl (.inl rfl)) gl_name 
      (dss_one (ds_par (ps_par (i := 7) (j := 8) (by rfl) sc_law.nd rfl rfl (by decide) rfl rfl (pa_cons (DE.pe (de_op op_mulU mulL (de_v (pv 7)) (de_op op_addU addL (de_v (pv 2)) de_int))) (pa_cons (DE.pe (de_op op_mulU mulL (de_v (pv 8)) (de_v (pv 2)))) pa_nil)) (by rfl)))))
    (dss_cons (ds_if (dt_cmp (op_neP hr.units) (eqPL true) (de_cr lenL (pe_callB cr_len (by rfl) B.len (by decide +kernel) (DA.pa (da_cons (de_v (pv 5)) da_nil)))) (de_op op_sub subL (de_v (pv 7)) (de_v (pv 8)))) (dss_one (ds_ret de_bl)) dss_nil)
    (dss_cons (ds_setLc (i := 10) (own := [("turn", 9)]) (g := (gName 9)) (G := (gN 9)) (t := dYes) sc_law.nd rfl rfl (sw_true rfl rfl rfl (by decide +kernel)) (di_range1 (by rfl) B.range (da_cons de_int da_nil)) (blkOk_by (N := N_law) (sc := defScope s_law) (by decide +kernel)) gl_name (fun _ _ _ _ _ => (pg_name (i := 9) sc_law.nd rfl (.inl rfl))) (fun _ _ _ _ _ => dts_nil) (fun _ _ _ _ _ => (de_cr tupL (pe_callTy (call_tuple_ofK K rfl) (by rfl) B.tuple (by decide +kernel) (DA.pa (da_cons (de_lc (own := [("word", 25)]) (g := (gName 25)) (G := (gN 25)) (t := dYes) sc_law.nd (di_seq (de_v (pv 4))) (blkOk_by (N := N_law) (by show blkC _ (relS _ (defScope s_law)) _ _ = true; decide +kernel)) gl_name (fun _ _ _ _ _ => (pg_name (i := 25) sc_law.nd rfl (.inl rfl))) (fun _ _ _ _ _ => dts_nil) (fun _ _ _ _ _ => (de_call (ms := []) hg D__law_pick G__law_pick hr_law_pick (by rfl) (da_cons (de_v (pv 1)) (da_cons (de_op op_addU addL de_int (de_call (ms := []) hg D__law_pick G__law_pick hr_law_pick (by rfl) (da_cons (de_v (pv 1)) (da_cons de_int da_nil)))) da_nil))))) da_nil))))))
    (dss_cons (ds_set (i := 10) sc_law.nd rfl (.inl rfl) (de_op op_addU addL (de_v (pv 10)) (de_lst (dd_cons (de_op op_mulU mulL (de_tup (dd_cons de_int dd_nil)) (de_cr lenL (pe_callB cr_len (by rfl) B.len (by decide +kernel) (DA.pa (da_cons (de_v (pv 4)) da_nil))))) (dd_cons (de_cr tupL (pe_callTy (call_tuple_ofK K rfl) (by rfl) B.tuple (by decide +kernel) (DA.pa (da_cons (de_lc (own := [("word", 25)]) (g := (gName 25)) (G := (gN 25)) (t := dYes) sc_law.nd (di_seq (de_v (pv 4))) (blkOk_by (N := N_law) (sc := defScope s_law) (by decide +kernel)) gl_name (fun _ _ _ _ _ => (pg_name (i := 25) sc_law.nd rfl (.inl rfl))) (fun _ _ _ _ _ => dts_nil) (fun _ _ _ _ _ => (de_ix (de_v (pv 25)) de_int))) da_nil)))) dd_nil)))))
    (dss_cons (ds_frz [10] (ds_for (g := (gName 11)) (G := (gN 11)) (vs := [11]) (di_seq (de_v (pv 10))) (pg_name (i := 11) sc_law.nd rfl (.inr rfl)) gl_name 
      (dss_cons (ds_setLc (i := 12) (own := [("line", 15)]) (g := (gName 15)) (G := (gN 15)) (t := _) sc_law.nd rfl rfl (sw_true rfl rfl rfl (by decide +kernel)) (di_seq (de_v (pv 5))) (blkOk_by (N := N_law) (sc := defScope s_law) (by decide +kernel)) gl_name (fun _ _ _ _ _ => (pg_name (i := 15) sc_law.nd rfl (.inr rfl))) (fun _ _ _ _ _ => (dts_one (dt_cmp (op_eqP hr.units) (eqPL false) (de_lc (own := [("word", 25)]) (g := (gName 25)) (G := (gN 25)) (t := _) sc_law.nd (di_seq (de_v (pv 15))) (blkOk_by (N := N_law) (by show blkC _ (relS _ (defScope s_law)) _ _ = true; decide +kernel)) gl_name (fun _ _ _ _ _ => (pg_name (i := 25) sc_law.nd rfl (.inl rfl))) (fun _ _ _ _ _ => (dts_one (dt_cmp (op_neP hr.units) (eqPL true) (de_ix (de_v (pv 11)) (de_dget hr.units (de_v (pv 6)) (de_v (pv 25)))) (de_ix (de_v (pv 11)) (de_dget hr.units (de_v (pv 6)) (de_ix (de_v (pv 15)) de_int)))))) (fun _ _ _ _ _ => (de_v (pv 25)))) (de_lst dd_nil)))) (fun _ _ _ _ _ => (de_v (pv 15))))
      (dss_one (ds_if (dt_cmp (op_neP hr.units) (eqPL true) (de_cr reprL (pe_callB (cr_repr hg hr.units) (by rfl) B.repr (by decide +kernel) (DA.pa (da_cons (de_call (ms := []) hg D_first_line G_first_line hrfirst_line (by rfl) (da_cons (de_v (pv 2)) (da_cons (de_v (pv 3)) (da_cons (de_v (pv 11)) da_nil)))) da_nil)))) (de_cr reprL (pe_callB (cr_repr hg hr.units) (by rfl) B.repr (by decide +kernel) (DA.pa (da_cons (de_ifExp (dt_cmp (op_neP hr.units) (eqPL true) (de_v (pv 12)) (de_lst dd_nil)) (de_ix (de_v (pv 12)) de_int) de_non) da_nil))))) (dss_one (ds_ret de_bl)) dss_nil)))))
    (dss_cons (ds_set (i := 13) sc_law.nd rfl (.inl rfl) (de_op op_addU addL (de_op op_mulU mulL (de_v (pv 3)) (de_op op_sub subL (de_v (pv 2)) de_int)) de_int))
    (dss_cons (ds_set (i := 14) sc_law.nd rfl (.inr rfl) (de_cr tupL (pe_callTy (call_tuple_ofK K rfl) (by rfl) B.tuple (by decide +kernel) (DA.pa (da_cons (de_lc (own := [("x", 26)]) (g := (gName 26)) (G := (gN 26)) (t := dYes) sc_law.nd (di_range1 (by rfl) B.range (da_cons (de_op op_addU addL (de_v (pv 13)) (de_call (ms := []) hg D__law_pick G__law_pick hr_law_pick (by rfl) (da_cons (de_v (pv 1)) (da_cons de_int da_nil)))) da_nil)) (blkOk_by (N := N_law) (sc := defScope s_law) (by decide +kernel)) gl_name (fun _ _ _ _ _ => (pg_name (i := 26) sc_law.nd rfl (.inl rfl))) (fun _ _ _ _ _ => dts_nil) (fun _ _ _ _ _ => (de_call (ms := []) hg D__law_pick G__law_pick hr_law_pick (by rfl) (da_cons (de_v (pv 1)) (da_cons de_int da_nil))))) da_nil)))))
    (dss_cons (ds_set (i := 11) sc_law.nd rfl (.inr rfl) (de_call (ms := []) hg D_row_colors G_row_colors hrrow_colors (by rfl) (da_cons (de_v (pv 2)) (da_cons (de_v (pv 3)) (da_cons (de_v (pv 14)) da_nil)))))
    (dss_cons (ds_if (dt_cmp (op_neP hr.units) (eqPL true) (de_cr reprL (pe_callB (cr_repr hg hr.units) (by rfl) B.repr (by decide +kernel) (DA.pa (da_cons (de_v (pv 11)) da_nil)))) (de_cr reprL (pe_callB (cr_repr hg hr.units) (by rfl) B.repr (by decide +kernel) (DA.pa (da_cons (de_cr tupL (pe_callTy (call_tuple_ofK K rfl) (by rfl) B.tuple (by decide +kernel) (DA.pa (da_cons (de_lc (own := [("word", 25)]) (g := (gName 25)) (G := (gN 25)) (t := dYes) sc_law.nd (di_seq (de_v (pv 4))) (blkOk_by (N := N_law) (sc := defScope s_law) (by decide +kernel)) gl_name (fun _ _ _ _ _ => (pg_name (i := 25) sc_law.nd rfl (.inl rfl))) (fun _ _ _ _ _ => dts_nil) (fun _ _ _ _ _ => (de_ix (de_v (pv 14)) (de_cr sumL (pe_callB (cr_sumU rfl) (by rfl) B.sum (by decide +kernel) (DA.pa (da_cons (de_v (pv 25)) da_nil))))))) da_nil)))) da_nil))))) (dss_one (ds_ret de_bl)) dss_nil)
    (dss_cons (ds_set (i := 15) sc_law.nd rfl (.inl rfl) (de_call (ms := []) hg D_first_line G_first_line hrfirst_line (by rfl) (da_cons (de_v (pv 2)) (da_cons (de_v (pv 3)) (da_cons (de_v (pv 11)) da_nil)))))
    (dss_cons (ds_if (dt_cmp op_inU (isPL true) (de_v (pv 15)) de_non) (dss_cons (ds_set (i := 16) sc_law.nd rfl (.inl rfl) (de_call (ms := []) hg D_line_row G_line_row hrline_row (by rfl) (da_cons (de_v (pv 15)) da_nil)))
      (dss_cons (ds_if (dt_cmp (op_neP hr.units) (eqPL true) (de_lc (own := [("word", 25)]) (g := (gName 25)) (G := (gN 25)) (t := dYes) sc_law.nd (di_seq (de_v (pv 15))) (blkOk_by (N := N_law) (sc := defScope s_law) (by decide +kernel)) gl_name (fun _ _ _ _ _ => (pg_name (i := 25) sc_law.nd rfl (.inl rfl))) (fun _ _ _ _ _ => dts_nil) (fun _ _ _ _ _ => (de_call (ms := []) hg D_word_number G_word_number hrword_number (by rfl) (da_cons (de_v (pv 25)) da_nil)))) (de_cr lisL (pe_callTy (call_list_ofK K rfl) (by rfl) B.list (by decide +kernel) (DA.pa (da_cons (de_v (pv 16)) da_nil))))) (dss_one (ds_ret de_bl)) dss_nil)
      (dss_cons (ds_if (dt_cmp (op_neP hr.units) (eqPL true) (de_lc (own := [("x", 26)]) (g := (gName 26)) (G := (gN 26)) (t := dYes) sc_law.nd (di_seq (de_v (pv 16))) (blkOk_by (N := N_law) (sc := defScope s_law) (by decide +kernel)) gl_name (fun _ _ _ _ _ => (pg_name (i := 26) sc_law.nd rfl (.inl rfl))) (fun _ _ _ _ _ => dts_nil) (fun _ _ _ _ _ => (de_ix (de_v (pv 14)) (de_op op_sub subL (de_v (pv 26)) de_int)))) (de_lc (own := [("word", 25)]) (g := (gName 25)) (G := (gN 25)) (t := dYes) sc_law.nd (di_seq (de_v (pv 15))) (blkOk_by (N := N_law) (sc := defScope s_law) (by decide +kernel)) gl_name (fun _ _ _ _ _ => (pg_name (i := 25) sc_law.nd rfl (.inl rfl))) (fun _ _ _ _ _ => dts_nil) (fun _ _ _ _ _ => (de_ix (de_v (pv 11)) (de_dget hr.units (de_v (pv 6)) (de_v (pv 25))))))) (dss_one (ds_ret de_bl)) dss_nil)
      (dss_cons (ds_if (dt_cmp (op_neP hr.units) (eqPL true) (de_cr lenL (pe_callB cr_len (by rfl) B.len (by decide +kernel) (DA.pa (da_cons (de_cr dictDL (pe_callTy (cr_dictU rfl hr.units) (by rfl) B.dict (by decide +kernel) (DA.pa (da_cons (de_lc (own := [("x", 26)]) (g := (gName 26)) (G := (gN 26)) (t := dYes) sc_law.nd (di_seq (de_v (pv 16))) (blkOk_by (N := N_law) (sc := defScope s_law) (by decide +kernel)) gl_name (fun _ _ _ _ _ => (pg_name (i := 26) sc_law.nd rfl (.inl rfl))) (fun _ _ _ _ _ => dts_nil) (fun _ _ _ _ _ => (de_tup (dd_cons (de_ix (de_v (pv 14)) (de_op op_sub subL (de_v (pv 26)) de_int)) (dd_cons de_int dd_nil))))) da_nil)))) da_nil)))) de_int) (dss_one (ds_ret de_bl)) dss_nil)
      (dss_one (ds_if (DW.dt (dw_or (dt_cmp (op_neP hr.units) (eqPL true) (de_cr lenL (pe_callB cr_len (by rfl) B.len (by decide +kernel) (DA.pa (da_cons (de_v (pv 16)) da_nil)))) (de_v (pv 2))) (dw_or (dt_cmp (op_neP hr.units) (eqPL true) (de_op op_sub subL (de_ix (de_v (pv 16)) de_int) (de_ix (de_v (pv 16)) de_int)) (de_op op_sub subL (de_ix (de_v (pv 16)) (de_un un_neg negL de_int)) (de_ix (de_v (pv 16)) (de_un un_neg negL de_int)))) (dw_or1 (dt_tru (de_call (ms := []) hg D_is_free_of G_is_free_of hris_free_of (by rfl) (da_cons (de_v (pv 2)) (da_cons (de_v (pv 14)) da_nil)))))))) (dss_one (ds_ret de_bl)) dss_nil)))))) (dss_one (ds_if (DW.dt (dw_and (dt_cmp op_gt gtL (de_v (pv 2)) de_int) (dw_and (dt_cmp (op_eqP hr.units) (eqPL false) (de_v (pv 3)) de_int) (dw_and1 (dt_cmp op_inU (isPL true) (de_call (ms := []) hg D_first_found G_first_found hrfirst_found (by rfl) (da_cons (de_v (pv 2)) (da_cons (de_sl (de_v (pv 14)) do_none (do_some (de_v (pv 2)))) da_nil))) de_non))))) (dss_one (ds_ret de_bl)) dss_nil)))
    (dss_cons (ds_if (DW.dt (dw_and (dt_tru (de_call (ms := []) hg D_is_free_of G_is_free_of hris_free_of (by rfl) (da_cons (de_v (pv 2)) (da_cons (de_v (pv 14)) da_nil)))) (dw_and1 (dt_cmp op_inU (isPL true) (de_v (pv 15)) de_non)))) (dss_one (ds_ret de_bl)) dss_nil)
    (dss_cons (ds_set (i := 17) sc_law.nd rfl (.inl rfl) (de_op op_addU addL de_int (de_call (ms := []) hg D__law_pick G__law_pick hr_law_pick (by rfl) (da_cons (de_v (pv 1)) (da_cons de_int da_nil)))))
    (dss_cons (ds_par (ps_par (i := 18) (j := 19) (by rfl) sc_law.nd rfl rfl (by decide) rfl rfl (pa_cons (DE.pe (de_call (ms := []) hg D__law_words G__law_words hr_law_words (by rfl) (da_cons de_int (da_cons (de_v (pv 17)) da_nil)))) (pa_cons (DE.pe (de_cr dictDL (pe_callTy (cr_dictU rfl hr.units) (by rfl) B.dict (by decide +kernel) (DA.pa (da_cons (de_lc (own := [("i", 24), ("word", 25)]) (g := (gTup K 2 (gCons (gName 24) (gCons (gName 25) gNil)))) (G := (gT (gC (gN 24) (gC (gN 25) gE)))) (t := dYes) sc_law.nd (di_enum (by rfl) B.enumerate (da_cons (de_call (ms := []) hg D__law_words G__law_words hr_law_words (by rfl) (da_cons de_int (da_cons (de_v (pv 17)) da_nil))) da_nil)) (blkOk_by (N := N_law) (sc := defScope s_law) (by decide +kernel)) (gl_tup (gl_cons gl_name (gl_cons gl_name gl_nil)) gn2) (fun _ _ _ _ _ => (pg_tup rfl (pgs_cons (pg_name (i := 24) sc_law.nd rfl (.inl rfl)) (pgs_cons (pg_name (i := 25) sc_law.nd rfl (.inl rfl)) pgs_nil)))) (fun _ _ _ _ _ => dts_nil) (fun _ _ _ _ _ => (de_tup (dd_cons (de_v (pv 25)) (dd_cons (de_v (pv 24)) dd_nil))))) da_nil))))) pa_nil)) (by rfl)))
    (dss_cons (ds_for (g := (gName 20)) (G := (gN 20)) (vs := [20]) (di_range2 (by rfl) B.range (da_cons de_int (da_cons de_int da_nil))) (pg_name (i := 20) sc_law.nd rfl (.inr rfl)) gl_name 
      (dss_cons (ds_set (i := 21) sc_law.nd rfl (.inl rfl) (de_call (ms := []) hg D_tally_row G_tally_row hrtally_row (by rfl) (da_cons (de_v (pv 17)) (da_cons (de_v (pv 20)) da_nil))))
      (dss_cons (ds_if (dt_cmp (op_neP hr.units) (eqPL true) (de_cr reprL (pe_callB (cr_repr hg hr.units) (by rfl) B.repr (by decide +kernel) (DA.pa (da_cons (de_v (pv 21)) da_nil)))) (de_cr reprL (pe_callB (cr_repr hg hr.units) (by rfl) B.repr (by decide +kernel) (DA.pa (da_cons (de_cr tupL (pe_callTy (call_tuple_ofK K rfl) (by rfl) B.tuple (by decide +kernel) (DA.pa (da_cons (de_lc (own := [("word", 25)]) (g := (gName 25)) (G := (gN 25)) (t := dYes) sc_law.nd (di_seq (de_v (pv 18))) (blkOk_by (N := N_law) (sc := defScope s_law) (by decide +kernel)) gl_name (fun _ _ _ _ _ => (pg_name (i := 25) sc_law.nd rfl (.inl rfl))) (fun _ _ _ _ _ => dts_nil) (fun _ _ _ _ _ => (de_op op_modG modL (de_cr intcL (pe_callTy call_int1 (by rfl) B.int (by decide +kernel) (DA.pa (da_cons (de_cr sumL (pe_callB (cr_sumU rfl) (by rfl) B.sum (by decide +kernel) (DA.pa (da_cons (de_v (pv 25)) da_nil)))) da_nil)))) (de_v (pv 20))))) da_nil)))) da_nil))))) (dss_one (ds_ret de_bl)) dss_nil)
      (dss_cons (ds_par (ps_par (i := 15) (j := 12) (by rfl) sc_law.nd rfl rfl (by decide) rfl rfl (pa_cons (DE.pe (de_call (ms := []) hg D_first_line G_first_line hrfirst_line (by rfl) (da_cons de_int (da_cons (de_v (pv 17)) (da_cons (de_v (pv 21)) da_nil))))) (pa_cons (DE.pe (de_lst dd_nil)) pa_nil)) (by rfl)))
      (dss_cons (ds_for (g := (gName 22)) (G := (gN 22)) (vs := [22]) (di_seq (de_frz (de_call (ms := []) hg D__law_lines G__law_lines hr_law_lines (by rfl) (da_cons de_int (da_cons (de_v (pv 17)) da_nil))))) (pg_name (i := 22) sc_law.nd rfl (.inl rfl)) gl_name 
        (dss_cons (ds_set (i := 23) sc_law.nd rfl (.inl rfl) (de_cr lenL (pe_callB cr_len (by rfl) B.len (by decide +kernel) (DA.pa (da_cons (de_lc (own := [("x", 26), ("y", 27)]) (g := (gTup K 2 (gCons (gName 26) (gCons (gName 27) gNil)))) (G := (gT (gC (gN 26) (gC (gN 27) gE)))) (t := _) sc_law.nd (di_zip (by rfl) B.zip (da_cons (de_ix (de_v (pv 22)) de_int) (da_cons (de_ix (de_v (pv 22)) de_int) da_nil))) (blkOk_by (N := N_law) (sc := defScope s_law) (by decide +kernel)) (gl_tup (gl_cons gl_name (gl_cons gl_name gl_nil)) gn2) (fun _ _ _ _ _ => (pg_tup rfl (pgs_cons (pg_name (i := 26) sc_law.nd rfl (.inl rfl)) (pgs_cons (pg_name (i := 27) sc_law.nd rfl (.inl rfl)) pgs_nil)))) (fun _ _ _ _ _ => (dts_one (dt_cmp (op_neP hr.units) (eqPL true) (de_v (pv 26)) (de_v (pv 27))))) (fun _ _ _ _ _ => de_int)) da_nil)))))
        (dss_one (ds_if (dt_cmp (op_eqP hr.units) (eqPL false) (de_op op_modG modL (de_cr intcL (pe_callTy call_int1 (by rfl) B.int (by decide +kernel) (DA.pa (da_cons (de_v (pv 23)) da_nil)))) (de_v (pv 20))) de_int) (dss_one (ds_app (ps_expr (pe_bm PySem.F.plainAttrs_list PySem.F.slot_list_append PySem.F.type_list_append mt_append (pv 12) (pa_cons (DE.pe (de_v (pv 22))) pa_nil))))) dss_nil))))
      (dss_cons (ds_if (DW.dt (dw_or (dt_cmp (op_neP hr.units) (eqPL true) (de_cr reprL (pe_callB (cr_repr hg hr.units) (by rfl) B.repr (by decide +kernel) (DA.pa (da_cons (de_v (pv 15)) da_nil)))) (de_cr reprL (pe_callB (cr_repr hg hr.units) (by rfl) B.repr (by decide +kernel) (DA.pa (da_cons (de_ifExp (dt_cmp (op_neP hr.units) (eqPL true) (de_v (pv 12)) (de_lst dd_nil)) (de_ix (de_v (pv 12)) de_int) de_non) da_nil))))) (dw_or1 (dt_cmp (op_neP hr.units) (eqPL true) (de_cmp op_isU (isPL false) (de_v (pv 15)) de_non) (de_cmp op_gt gtL (de_v (pv 20)) (de_v (pv 17))))))) (dss_one (ds_ret de_bl)) dss_nil)
      (dss_one (ds_if (DW.dt (dw_and (dt_cmp op_inU (isPL true) (de_v (pv 15)) de_non) (dw_and1 (dt_cmp (op_neP hr.units) (eqPL true) (de_ix (de_v (pv 21)) (de_dget hr.units (de_v (pv 19)) (de_ix (de_v (pv 15)) de_int))) (de_ix (de_v (pv 21)) (de_dget hr.units (de_v (pv 19)) (de_ix (de_v (pv 15)) de_int))))))) (dss_one (ds_ret de_bl)) dss_nil))))))))
    (dss_one (ds_ret de_bl)))))))))))))))))))))))), ?_⟩
  refine ⟨_, rfl, a, ns, rfl, hS, by omega, fun H1 p c s1 np nc src => ?_⟩
  refine ⟨H1, fun _ => False, some (p, c), law_start (n := 26) src ?_ fin⟩
  clear hS hlen fin np nc src s1
  apply keyT
  · intro key
    refine ⟨_, rfl, by decide, by decide, fun d hd => ?_⟩
    obtain ⟨t, n, rfl, hc⟩ : ∃ t n : Nat, d = .tuple [.int (t : Int), .int (n : Int)] ∧ Cc t n := by
      simp only [List.mem_cons, List.not_mem_nil, or_false] at hd
      rcases hd with rfl | rfl | rfl | rfl | rfl | rfl | rfl | rfl | rfl | rfl
      · exact ⟨2, 1, rfl, by decide, by decide, by decide, by decide⟩
      · exact ⟨2, 2, rfl, by decide, by decide, by decide, by decide⟩
      · exact ⟨2, 3, rfl, by decide, by decide, by decide, by decide⟩
      · exact ⟨2, 4, rfl, by decide, by decide, by decide, by decide⟩
      · exact ⟨3, 1, rfl, by decide, by decide, by decide, by decide⟩
      · exact ⟨3, 2, rfl, by decide, by decide, by decide, by decide⟩
      · exact ⟨3, 3, rfl, by decide, by decide, by decide, by decide⟩
      · exact ⟨4, 1, rfl, by decide, by decide, by decide, by decide⟩
      · exact ⟨4, 2, rfl, by decide, by decide, by decide, by decide⟩
      · exact ⟨4, 3, rfl, by decide, by decide, by decide, by decide⟩
    clear hd
    refine ⟨8, rfl, by decide, fun i hi => ?_⟩
    refine ⟨fun _ => ?_, fun _ => key t n hc⟩
    refine ⟨_, rfl, by decide, by decide, fun d hd => ?_⟩
    obtain ⟨t, n, rfl, hc⟩ : ∃ t n : Nat, d = .tuple [.int (t : Int), .int (n : Int)] ∧ Cc t n := by
      simp only [List.mem_cons, List.not_mem_nil, or_false] at hd
      rcases hd with rfl | rfl
      · exact ⟨3, 4, rfl, by decide, by decide, by decide, by decide⟩
      · exact ⟨4, 4, rfl, by decide, by decide, by decide, by decide⟩
    exact key t n hc
  intro t n ⟨ht, ht2, hn, hn2⟩
  have pw := pow_small (t := t) (n := n) (by omega) (by omega)
  refine ⟨t, n, rfl, by omega, by omega, t, n, rfl, by omega, by omega, by omega, ?_⟩
  refine lcM (fun p : List Nat × Nat => .tuple [.int (p.2 : Int), tN p.1]) ((wds t n).zipIdx) (fun p => .tuple [tN p.1, .int (p.2 : Int)]) (enD_map tN 0 (wds t n)) (by rw [List.length_zipIdx, wds_len]; exact Nat.le_trans pw (by decide)) (fun p hp Qy q => q) ?_ mono_g2
  refine .inr ⟨plK t n, by unfold plK; rw [List.map_map]; exact congrArg some (List.map_congr_left fun p _ => by show _ = PyData.tuple [tP (kW p.1), _]; rw [tP_kW]), plK_nodup t n, ?_⟩
  refine ⟨t, n, rfl, by omega, by omega, t, n, rfl, by omega, by omega, by omega, ?_⟩
  have smw : ∀ w ∈ wds t n, Sm (tN w) 2 (68 * 4 + 3) := fun w hw => sm_tN (fun x hx => by have := (mem_wds.mp hw).2 x hx; omega) (by rw [(mem_wds.mp hw).1]; exact hn2)
  have sml : ∀ l ∈ linesS t n, Sm (fN l) 3 ((68 * 4 + 3 + 2) * 4 + 3) := fun l hl => by
    obtain ⟨s, hs, _, rfl⟩ := lines_in hl
    exact sm_tup (sm_maps (fun w hw => smw w (line_words hs hw)) (by rw [line_len]; exact ht2))
  have ll := lines_len (t := t) (n := n)
  have pw5 : (t + 1) ^ n ≤ 625 := by
    have a := Nat.pow_le_pow_left (show t + 1 ≤ 5 by omega) n
    have b := Nat.pow_le_pow_right (show 0 < 5 by decide) hn2
    have : 5 ^ 4 = 625 := by decide
    omega
  have pw4 : t ^ n ≤ 256 := by
    have a := Nat.pow_le_pow_left ht2 n
    have b := Nat.pow_le_pow_right (show 0 < 4 by decide) hn2
    have : 4 ^ 4 = 256 := by decide
    omega
  have sm1 : Sm (.list [fN (wds t n), .tuple ((linesS t n).map fN)]) 5 2000000 := by
    have a := sm_lst (sm_cons (sm_tup (sm_maps smw (m := 256) (by rw [wds_len]; exact pw4))) (sm_cons (sm_tup (sm_maps sml (m := 625) (by omega))) sm_nil))
    exact ⟨a.s, Nat.le_trans a.dp (by decide), Nat.le_trans a.w (by decide), a.l⟩
  have r1 := sm1.rp (by decide) (by decide)
  refine ⟨_, rfl, r1.1, r1.2.1, r1.2.2, ?_⟩
  refine ⟨_, rfl, r1.1, r1.2.1, r1.2.2, ?_⟩
  clear r1 sm1
  refine ⟨fun h => ne_no rfl h, fun _ => ?_⟩
  refine ⟨⟨by omega, by omega⟩, forT (fun (i : Nat) => PyData.int (i : Int)) (List.range n) rfl (by rw [Int.toNat_natCast]; exact rgD0 n) (fun pre ρ => ∃ v9, ρ = stL [none, some .src, some (.d (.int (t : Int))), some (.d (.int (n : Int))), some (.l .mine ((wds t n).map tN)), some (.l .mine ((linesS t n).map fN)), some (.dt .mine (plK t n)), some (.d (.int (((t + 1) ^ pre.length : Nat) : Int))), some (.d (.int ((t ^ pre.length : Nat) : Int))), v9]) ⟨none, by rfl⟩ ?_ ?_⟩
  · rintro pre x post ρ' e ⟨v9, rfl⟩
    have pl : pre.length < n := by
      have := congrArg List.length e
      simp at this; omega
    refine ⟨mulG_r (n := 2000) (by omega), mulG_r (n := 2000) (by omega), some (.d (.int (x : Int))), ?_⟩
    rw [show (pre ++ [x]).length = pre.length + 1 by simp, Nat.pow_succ, Nat.pow_succ, Int.natCast_mul, Int.natCast_mul]
    rfl
  rintro ρ' ⟨v9, rfl⟩
  rw [List.length_range]
  refine ⟨fun h => ?_, fun _ => ?_⟩
  · rw [Bool.true_xor, Bool.not_eq_true', decide_eq_false_iff_not] at h
    refine absurd ?_ h
    rw [List.length_map]
    omega
  refine ⟨⟨by decide, by decide⟩, lcP (fun (i : Nat) => PyData.int (i : Int)) (List.range 2) tN (fun row : List Nat => row.length = t ^ n) (rgD0 2) (by decide) (fun x hx Qy q => ?_) ?_ mono_gN⟩
  · refine lcP tN (wds t n) (fun (i : Nat) => PyData.int (i : Int)) (fun _ => True) rfl (by rw [wds_len]; exact Nat.le_trans pw (by decide)) (fun w hw Qz q => ?_) ?_ mono_gN
    · refine ⟨3, rfl, by decide, fun i hi => ⟨_, rfl, by omega, fun j hj => q j trivial⟩⟩
    · intro row h1 _
      exact q row (by rw [h1, wds_len])
  · intro cs h1 h2
    have tn2 : 2 ≤ t ^ n := by
      have a := Nat.pow_le_pow_left ht n
      have b := Nat.pow_le_pow_right (show 0 < 2 by decide) hn
      omega
    have wl := wds_len t n
    refine ⟨by simp, by rw [List.length_map]; omega, by rw [List.length_map]; omega, by simp, ?_⟩
    refine lcM tN (wds t n) (fun w => .int ((w.headD 0 : Nat) : Int)) rfl (by rw [wds_len]; exact Nat.le_trans pw (by decide)) (fun w hw Qy q => ?_) ?_ mono_gN
    · obtain ⟨hd, r, rfl⟩ : ∃ hd r, w = hd :: r := by
        have := (mem_wds.mp hw).1
        cases w with
        | nil => simp at this; omega
        | cons a b => exact ⟨a, b, rfl⟩
      exact ⟨_, atI_lN (c := hd :: r) (i := 0) (Nat.succ_pos _) rfl, q⟩
    have hcs : cs.length = 2 := h1
    refine ⟨by rw [List.length_map, hcs]; show 2 + 2 ≤ sizeLine; decide, ?_⟩
    obtain ⟨rows, hrows⟩ : ∃ rows, rows = cs ++ [List.replicate (t ^ n) 0, (wds t n).map fun w => w.headD 0] := ⟨_, rfl⟩
    have rl : ∀ r ∈ rows, r.length = t ^ n := fun r hr => by
      rw [hrows] at hr
      rcases List.mem_append.mp hr with h | h
      · exact h2 r h
      · simp only [List.mem_cons, List.not_mem_nil, or_false] at h
        rcases h with rfl | rfl
        · rw [List.length_replicate]
        · rw [List.length_map, wl]
    have a1 : (List.replicate (((((wds t n).map tN).length : Nat) : Int)).toNat [PyData.int 0]).flatten = (List.replicate (t ^ n) 0).map fun (a : Nat) => PyData.int (a : Int) := by
      rw [List.length_map, wl, Int.toNat_natCast, flat_rep, List.map_replicate]; rfl
    have a2 : ((wds t n).map fun w => PyData.int ((w.headD 0 : Nat) : Int)) = ((wds t n).map fun w => w.headD 0).map fun (a : Nat) => PyData.int (a : Int) := by rw [List.map_map]; rfl
    refine forT tN rows rfl (by rw [a1, a2, hrows, List.map_append]; rfl) (fun pre ρ => ∃ v9 v10 v11 v12, ρ = stL [none, some .src, some (.d (.int (t : Int))), some (.d (.int (n : Int))), some (.l .mine ((wds t n).map tN)), some (.l .mine ((linesS t n).map fN)), some (.dt .mine (plK t n)), some (.d (.int (((t + 1) ^ n : Nat) : Int))), some (.d (.int ((t ^ n : Nat) : Int))), v9, v10, v11, v12]) ⟨_, _, _, _, by rfl⟩ ?_ ?_
    · rintro pre row post ρ' e ⟨v9, v10, v11, v12, rfl⟩
      have hr := rl row (by rw [e]; simp)
      have lsz : (linesS t n).length ≤ sizeLine := Nat.le_trans (show _ ≤ 625 by omega) (by decide)
      refine lcT fN (linesS t n) (fun l => mono row (l.map fun w => wpl t w + 1)) fN rfl lsz (fun l hl Qy Qn q1 q2 => ?_) ?_
      · obtain ⟨s, hs, hts, el⟩ := lines_in hl
        have lw : ∀ w ∈ l, w ∈ wds t n := fun w hw => line_words hs (el ▸ hw)
        have lt : l.length = t := by rw [el, line_len]
        obtain ⟨hd, r, rfl⟩ : ∃ hd r, l = hd :: r := by
          cases l with
          | nil => simp at lt; omega
          | cons a b => exact ⟨a, b, rfl⟩
        have ix : ∀ w ∈ hd :: r, wpl t w < row.length := fun w hw => by rw [hr]; exact wpl_lt (lw w hw)
        refine lcT tN (hd :: r) (fun w => !decide (row.getD (wpl t w) 0 = row.getD (wpl t hd) 0)) tN rfl (by rw [lt]; exact Nat.le_trans ht2 (by decide)) (fun w hw Qz Qm q1 q2 => ?_) ?_
        · refine ⟨_, lookV_pl (lw w hw), _, atI_lN (ix w hw) rfl, _, atI_nat (j := 0) (show ((hd :: r).map tN)[0]? = some (tN hd) from rfl), _, lookV_pl (lw hd (by simp)), _, atI_lN (ix hd (by simp)) rfl, fun h => q1 ?_, fun h => q2 ?_⟩
          · rw [← nat_ne]; exact h
          · rw [← nat_ne]; exact h
        · refine ⟨min_nil _, fun h => q1 ?_, fun h => q2 ?_⟩
          · rw [mono_filter, ← eqv_nilT]; simpa using h
          · rw [mono_filter, ← eqv_nilT]; simpa using h
      · refine ⟨t, n, row, rfl, by omega, by omega, by omega, hr, ?_⟩
        have so : Sm (oD fN (firstLn t n row)) 3 ((68 * 4 + 3 + 2) * 4 + 3) := sm_oF (fun l e => sml l (List.mem_of_find?_eq_some e)) (by decide)
        have r1 := so.rp (by decide) (by decide)
        refine ⟨_, rfl, r1.1, r1.2.1, r1.2.2, ?_⟩
        have ef : firstLn t n row = ((linesS t n).filter fun l => mono row (l.map fun w => wpl t w + 1)).head? := find_filter _ _
        refine ⟨min_nil _, fun h => ?_, fun h => ?_⟩
        · cases e2 : (linesS t n).filter fun l => mono row (l.map fun w => wpl t w + 1) with
          | nil => rw [e2, eqv_nilF] at h; simp at h
          | cons l ls =>
            rw [e2] at ef
            refine ⟨_, atI_nat (j := 0) (show ((l :: ls).map fN)[0]? = some (fN l) from rfl), ?_⟩
            rw [ef] at r1
            refine ⟨_, rfl, r1.1, r1.2.1, r1.2.2, fun h => ne_no (by rw [ef]; rfl) h, fun _ => ?_⟩
            exact ⟨_, _, _, _, rfl⟩
        · cases e2 : (linesS t n).filter fun l => mono row (l.map fun w => wpl t w + 1) with
          | nil =>
            rw [e2] at ef
            rw [ef] at r1
            refine ⟨_, rfl, r1.1, r1.2.1, r1.2.2, fun h => ne_no (by rw [ef]; rfl) h, fun _ => ?_⟩
            exact ⟨_, _, _, _, rfl⟩
          | cons l ls => rw [e2, eqv_nilF] at h; simp at h
    rintro ρ' ⟨v9, v10, v11, v12, rfl⟩
    have nt : n * (t - 1) ≤ 12 := Nat.mul_le_mul (show n ≤ 4 from hn2) (show t - 1 ≤ 3 by omega)
    have em : (n : Int) * ((t : Int) - 1) = ((n * (t - 1) : Nat) : Int) := by rw [Int.natCast_mul, show ((t - 1 : Nat) : Int) = (t : Int) - 1 by omega]
    refine ⟨mulG_r (n := 2000) (by omega), 3, rfl, by decide, fun j hj => ?_⟩
    have hj : j < 3 := by omega
    refine ⟨⟨by rw [em]; omega, by rw [em]; omega⟩, lcP (fun (i : Nat) => PyData.int (i : Int)) (List.range (n * (t - 1) + 1 + j)) (fun (i : Nat) => PyData.int (i : Int)) (fun y : Nat => y < 2) (by rw [em, show (((n * (t - 1) : Nat) : Int) + 1 + (j : Int)).toNat = n * (t - 1) + 1 + j by omega]; exact rgD0 _) (by rw [List.length_range]; exact Nat.le_trans (show _ ≤ 20 by omega) (by decide)) (fun x hx Qy q => ⟨2, rfl, by decide, fun i hi => q i (by omega)⟩) ?_ mono_gN⟩
    intro cl hcl hcv
    rw [List.length_range] at hcl
    have hcg : ∀ i, cl.getD i 0 < 2 := fun i => by
      rw [List.getD_eq_getElem?_getD]
      cases e : cl[i]? with
      | none => decide
      | some v => exact hcv v (List.mem_of_getElem? e)
    refine ⟨t, n, cl, rfl, by omega, by omega, by omega, ?_⟩
    have sr : Sm (tN (rowC t n cl)) 2 (68 * 256 + 3) := sm_tN (fun x hx => by
      obtain ⟨w, _, rfl⟩ := List.mem_map.mp hx
      have := hcg w.sum
      omega) (by unfold rowC; rw [List.length_map, wl]; exact pw4)
    have r1 := sr.rp (by decide) (by decide)
    refine ⟨_, rfl, r1.1, r1.2.1, r1.2.2, ?_⟩
    refine lcM tN (wds t n) (fun w => .int ((cl.getD w.sum 0 : Nat) : Int)) rfl (by rw [wds_len]; exact Nat.le_trans pw (by decide)) (fun w hw Qy q => ?_) ?_ mono_gN
    · refine ⟨w.map fun (a : Nat) => (a : Int), by rw [← ints_nat]; rfl, ?_⟩
      rw [sum_nat]
      have ⟨w1, wx⟩ := mem_wds.mp hw
      have := sum_le wx
      rw [w1] at this
      exact ⟨_, atI_lN (i := w.sum) (by omega) rfl, q⟩
    have er : (PyData.tuple ((wds t n).map fun w => PyData.int ((cl.getD w.sum 0 : Nat) : Int))) = tN (rowC t n cl) := by unfold tN rowC; rw [List.map_map]; rfl
    rw [← er] at r1
    refine ⟨_, rfl, r1.1, r1.2.1, r1.2.2, fun h => ne_no (by rw [er]; rfl) h, fun _ => ?_⟩
    refine ⟨t, n, rowC t n cl, rfl, by omega, by omega, by omega, by unfold rowC; rw [List.length_map, wl], ?_⟩
    have hfree : ∀ l, firstLn t n (rowC t n cl) = some l → (firstR t cl).isNone = false := fun l e => free_line ht (by omega) e
    clear er r1 sr
    apply keyR fun ρ => ∃ v2 v3 v4 v5 v6 v7 v8 v9 v10 v11 v12 v13 v14 v15 v16, ρ = stL [none, some .src, v2, v3, v4, v5, v6, v7, v8, v9, v10, v11, v12, v13, v14, v15, v16]
    · intro key
      cases e1 : firstLn t n (rowC t n cl) with
      | none =>
        refine ⟨fun h => (nomatch h), fun _ => ?_⟩
        refine ⟨fun _ => ⟨fun hn1 => ?_, fun _ => ⟨fun h => (nomatch h), fun _ => ?_⟩⟩, fun _ => ⟨fun h => (nomatch h), fun _ => ?_⟩⟩
        · have h1n : n = 1 := by
            have : (n : Int) = 1 := of_decide_eq_true (by rw [Bool.false_xor] at hn1; exact hn1)
            omega
          have hcl2 : cl.length = t - 1 + 1 + j := by rw [hcl, h1n, Nat.one_mul]
          refine ⟨t, cl.take t, by rw [cut_take (by omega)]; rfl, ht, by omega, by rw [List.length_take]; omega, ?_⟩
          rw [no_first ht h1n (by omega) e1]
          refine ⟨fun h => (nomatch h), fun _ => ?_⟩
          refine ⟨t, cl, rfl, ht, by omega, by omega, fun _ => ⟨fun h => (nomatch h), fun _ => key _ ⟨_, _, _, _, _, _, _, _, _, _, _, _, _, _, _, rfl⟩⟩, fun _ => ⟨fun h => (nomatch h), fun _ => key _ ⟨_, _, _, _, _, _, _, _, _, _, _, _, _, _, _, rfl⟩⟩⟩
        · exact ⟨t, cl, rfl, ht, by omega, by omega, fun _ => ⟨fun h => (nomatch h), fun _ => key _ ⟨_, _, _, _, _, _, _, _, _, _, _, _, _, _, _, rfl⟩⟩, fun _ => ⟨fun h => (nomatch h), fun _ => key _ ⟨_, _, _, _, _, _, _, _, _, _, _, _, _, _, _, rfl⟩⟩⟩
        · exact ⟨t, cl, rfl, ht, by omega, by omega, fun _ => ⟨fun h => (nomatch h), fun _ => key _ ⟨_, _, _, _, _, _, _, _, _, _, _, _, _, _, _, rfl⟩⟩, fun _ => ⟨fun h => (nomatch h), fun _ => key _ ⟨_, _, _, _, _, _, _, _, _, _, _, _, _, _, _, rfl⟩⟩⟩
      | some l =>
        obtain ⟨s, hs, hts, el⟩ := lines_in (List.mem_of_find?_eq_some e1)
        have hm : mono (rowC t n cl) (l.map fun w => wpl t w + 1) = true := firstLn_some e1
        have hm2 : mono cl (l.map fun w => 1 + w.sum) = true := by rw [el, ← mono_told hs (by omega), ← el]; exact hm
        have lw : ∀ w ∈ l, w ∈ wds t n := fun w hw => line_words hs (el ▸ hw)
        have lt : l.length = t := by rw [el, line_len]
        refine ⟨fun _ => ?_, fun h => (nomatch h)⟩
        refine ⟨l, rfl, by omega, ?_⟩
        refine lcM tN l (fun w => .int ((1 + w.sum : Nat) : Int)) rfl (by rw [lt]; exact Nat.le_trans ht2 (by decide)) (fun w _ Qy q => ⟨w, rfl, q⟩) ?_ mono_gN
        have ee : l.map (fun w => PyData.int ((1 + w.sum : Nat) : Int)) = (l.map fun w => 1 + w.sum).map fun (a : Nat) => PyData.int (a : Int) := by rw [List.map_map]; rfl
        rw [ee]
        refine ⟨depth_lN _ _, fun h => ?_, fun _ => ?_⟩
        · rw [eqv_lN] at h; simp at h
        have tl : (l.map fun w => 1 + w.sum).length = t := by rw [List.length_map, lt]
        have hx1 : ∀ x ∈ l.map (fun w => 1 + w.sum), 1 ≤ x ∧ x - 1 < cl.length := fun x hx => by
          obtain ⟨w, hw, rfl⟩ := List.mem_map.mp hx
          have ⟨w1, wx⟩ := mem_wds.mp (lw w hw)
          have := sum_le wx
          rw [w1] at this
          omega
        refine lcM (fun (i : Nat) => PyData.int (i : Int)) (l.map fun w => 1 + w.sum) (fun x => .int ((cl.getD (x - 1) 0 : Nat) : Int)) rfl (by rw [tl]; exact Nat.le_trans ht2 (by decide)) (fun x hx Qy q => ?_) ?_ mono_gN
        · have ⟨g1, g2⟩ := hx1 x hx
          exact ⟨_, atI_lN (i := x - 1) g2 (by omega), q⟩
        refine lcM tN l (fun w => .int (((rowC t n cl).getD (wpl t w) 0 : Nat) : Int)) rfl (by rw [lt]; exact Nat.le_trans ht2 (by decide)) (fun w hw Qy q => ⟨_, lookV_pl (lw w hw), _, atI_lN (by show wpl t w < (rowC t n cl).length; rw [rowC_len]; exact wpl_lt (lw w hw)) rfl, q⟩) ?_ mono_gN
        have ec : (l.map fun w => 1 + w.sum).map (fun x => PyData.int ((cl.getD (x - 1) 0 : Nat) : Int)) = (l.map fun w => cl.getD w.sum 0).map fun (a : Nat) => PyData.int (a : Int) := by
          rw [List.map_map, List.map_map]
          exact List.map_congr_left fun w _ => by show PyData.int ((cl.getD (1 + w.sum - 1) 0 : Nat) : Int) = _; rw [Nat.add_sub_cancel_left]; rfl
        have ed : l.map (fun w => PyData.int (((rowC t n cl).getD (wpl t w) 0 : Nat) : Int)) = (l.map fun w => cl.getD w.sum 0).map fun (a : Nat) => PyData.int (a : Int) := by
          rw [List.map_map]
          exact List.map_congr_left fun w hw => by rw [rowC_at (lw w hw)]; rfl
        rw [ec, ed]
        refine ⟨depth_lN _ _, fun h => ?_, fun _ => ?_⟩
        · rw [eqv_lN] at h; simp at h
        refine lcM (fun (i : Nat) => PyData.int (i : Int)) (l.map fun w => 1 + w.sum) (fun x => .tuple [.int ((cl.getD (x - 1) 0 : Nat) : Int), .int 0]) rfl (by rw [tl]; exact Nat.le_trans ht2 (by decide)) (fun x hx Qy q => ?_) ?_ mono_gN
        · have ⟨g1, g2⟩ := hx1 x hx
          exact ⟨_, atI_lN (i := x - 1) g2 (by omega), q⟩
        refine .inl ⟨(l.map fun w => 1 + w.sum).map fun x => (.inl ((cl.getD (x - 1) 0 : Nat) : Int), .int 0), congrArg some (by rw [List.map_map, List.map_map, List.map_map]; rfl), ?_⟩
        have m1 : (mergeD [] ((l.map fun w => 1 + w.sum).map fun x => ((Sum.inl ((cl.getD (x - 1) 0 : Nat) : Int) : Key), PyData.int 0))).length = 1 := by
          refine merge_one (k := .inl ((cl.getD ((l.map fun w => 1 + w.sum).headD 1 - 1) 0 : Nat) : Int)) (v := .int 0) (fun p hp => ?_) (fun e => ?_)
          · obtain ⟨x, hx, rfl⟩ := List.mem_map.mp hp
            unfold mono at hm2
            rw [List.all_eq_true] at hm2
            rw [of_decide_eq_true (hm2 x hx)]
          · have := congrArg List.length e
            rw [List.length_map, tl] at this
            simp at this; omega
        refine ⟨fun h => ne_no (by rw [m1]; rfl) h, fun _ => ?_⟩
        have tr : l.map (fun w => 1 + w.sum) = rowAt t (baseN t s + 1) (starsN t s) := by rw [el, told_row]
        rw [tr] at tl ⊢
        refine ⟨fun h => ne_no (by rw [List.length_map, tl]) h, fun _ => ?_⟩
        refine ⟨_, atI_nat (j := 1) (told_at (by omega)), _, atI_nat (j := 0) (told_at (by omega)), .int ((baseN t s + 1 + (t - 1) * starsN t s : Nat) : Int), atI_neg (j := 1) rfl (by decide) (by rw [List.length_map, tl]; omega) (by rw [List.length_map, tl]; exact told_at (i := t - 1) (by omega)), .int ((baseN t s + 1 + (t - 2) * starsN t s : Nat) : Int), atI_neg (j := 2) rfl (by decide) (by rw [List.length_map, tl]; omega) (by rw [List.length_map, tl]; exact told_at (i := t - 2) (by omega)), fun h => ne_no ?_ h, fun _ => ?_⟩
        · have e9 : (t - 1) * starsN t s = (t - 2) * starsN t s + starsN t s := by rw [← Nat.succ_mul]; congr 1; omega
          rw [e9]; omega
        refine ⟨t, cl, rfl, ht, by omega, by omega, fun h => ?_, fun _ => ?_⟩
        · rw [hfree l e1] at h; cases h
        refine ⟨t, cl, rfl, ht, by omega, by omega, fun h => ?_, fun _ => ⟨fun h => (nomatch h), fun _ => key _ ⟨_, _, _, _, _, _, _, _, _, _, _, _, _, _, _, rfl⟩⟩⟩
        rw [hfree l e1] at h; cases h
    rintro ρ' ⟨v2, v3, v4, v5, v6, v7, v8, v9, v10, v11, v12, v13, v14, v15, v16, rfl⟩
    refine ⟨4, rfl, by decide, fun j2 hj2 => ?_⟩
    have hj2 : j2 < 4 := by omega
    refine ⟨2, 1 + j2, by rfl, by decide, by omega, 2, 1 + j2, by rfl, by decide, by omega, ?_⟩
    have pw2 : 2 ^ (1 + j2) ≤ 16 := by
      have b := Nat.pow_le_pow_right (show 0 < 2 by decide) (show 1 + j2 ≤ 4 by omega)
      have : 2 ^ 4 = 16 := by decide
      omega
    have wl2 := wds_len 2 (1 + j2)
    refine lcM (fun p : List Nat × Nat => .tuple [.int (p.2 : Int), tN p.1]) ((wds 2 (1 + j2)).zipIdx) (fun p => .tuple [tN p.1, .int (p.2 : Int)]) (enD_map tN 0 (wds 2 (1 + j2))) (by rw [List.length_zipIdx, wds_len]; exact Nat.le_trans pw2 (by decide)) (fun p hp Qy q => q) ?_ mono_g2
    refine .inr ⟨plK 2 (1 + j2), by unfold plK; rw [List.map_map]; exact congrArg some (List.map_congr_left fun p _ => by show _ = PyData.tuple [tP (kW p.1), _]; rw [tP_kW]), plK_nodup 2 (1 + j2), ?_⟩
    refine ⟨⟨by decide, by decide, by decide, by decide⟩, forT (fun (i : Nat) => PyData.int (1 + (i : Int))) (List.range 6) rfl rfl (fun pre ρ => ∃ v2 v3 v4 v5 v6 v7 v8 v9 v10 v11 v12 v13 v14 v15 v16 v20 v21 v22 v23, ρ = stL [none, some .src, v2, v3, v4, v5, v6, v7, v8, v9, v10, v11, v12, v13, v14, v15, v16, some (.d (.int ((1 + j2 : Nat) : Int))), some (.l .mine ((wds 2 (1 + j2)).map tN)), some (.dt .mine (plK 2 (1 + j2))), v20, v21, v22, v23]) ⟨v2, v3, v4, v5, v6, v7, v8, v9, v10, v11, v12, v13, v14, v15, v16, none, none, none, none, by rfl⟩ ?_ ?_⟩
    · rintro pre i post ρ' e ⟨v2, v3, v4, v5, v6, v7, v8, v9, v10, v11, v12, v13, v14, v15, v16, v20, v21, v22, v23, rfl⟩
      have hi : i < 6 := List.mem_range.mp (by rw [e]; simp)
      refine ⟨1 + j2, 1 + i, by rfl, by omega, by omega, ?_⟩
      have st : Sm (tN (tlyR (1 + j2) (1 + i))) 2 (68 * 16 + 3) := sm_tN (fun x hx => by
        obtain ⟨w, _, rfl⟩ := List.mem_map.mp hx
        have := Nat.mod_lt w.sum (show 0 < 1 + i by omega)
        omega) (by rw [tly_len]; exact pw2)
      have r1 := st.rp (by decide) (by decide)
      refine ⟨_, rfl, r1.1, r1.2.1, r1.2.2, ?_⟩
      refine lcM tN (wds 2 (1 + j2)) (fun w => .int ((w.sum % (1 + i) : Nat) : Int)) rfl (by rw [wl2]; exact Nat.le_trans pw2 (by decide)) (fun w hw Qy q => ?_) ?_ mono_gN
      · refine ⟨w.map fun (a : Nat) => (a : Int), by rw [← ints_nat]; rfl, ?_⟩
        rw [sum_nat]
        exact ⟨by omega, q⟩
      have er : (PyData.tuple ((wds 2 (1 + j2)).map fun w => PyData.int ((w.sum % (1 + i) : Nat) : Int))) = tN (tlyR (1 + j2) (1 + i)) := by unfold tN tlyR; rw [List.map_map]; rfl
      rw [← er] at r1
      refine ⟨_, rfl, r1.1, r1.2.1, r1.2.2, fun h => ne_no (by rw [er]; rfl) h, fun _ => ?_⟩
      clear r1 er st
      refine ⟨2, 1 + j2, tlyR (1 + j2) (1 + i), by rfl, by decide, by decide, by omega, tly_len _ _, ?_⟩
      refine ⟨2, 1 + j2, by rfl, by decide, by decide, by omega, ?_⟩
      generalize ho : firstLn 2 (1 + j2) (tlyR (1 + j2) (1 + i)) = o
      have ef : o = ((linesS 2 (1 + j2)).filter fun l => mono (tlyR (1 + j2) (1 + i)) (l.map fun w => wpl 2 w + 1)).head? := by rw [← ho]; exact find_filter _ _
      have hno := tly_none (n := 1 + j2) (k := 1 + i) (by omega)
      rw [ho] at hno
      have ll2 : (linesS 2 (1 + j2)).length + 2 ^ (1 + j2) = 3 ^ (1 + j2) := lines_len (t := 2) (n := 1 + j2)
      have pw3 : 3 ^ (1 + j2) ≤ 81 := by
        have b := Nat.pow_le_pow_right (show 0 < 3 by decide) (show 1 + j2 ≤ 4 by omega)
        have : 3 ^ 4 = 81 := by decide
        omega
      refine forT fN (linesS 2 (1 + j2)) rfl rfl (fun pre ρ => ∃ v2 v3 v4 v5 v6 v7 v8 v9 v10 v11 v13 v14 v16 v22 v23, ρ = stL [none, some .src, v2, v3, v4, v5, v6, v7, v8, v9, v10, v11, some (.l .mine ((pre.filter fun l => mono (tlyR (1 + j2) (1 + i)) (l.map fun w => wpl 2 w + 1)).map fN)), v13, v14, some (.d (oD fN o)), v16, some (.d (.int ((1 + j2 : Nat) : Int))), some (.l .mine ((wds 2 (1 + j2)).map tN)), some (.dt .mine (plK 2 (1 + j2))), some (.d (.int (1 + (i : Int)))), some (.d (tN (tlyR (1 + j2) (1 + i)))), v22, v23]) ⟨v2, v3, v4, v5, v6, v7, v8, v9, v10, v11, v13, v14, v16, v22, v23, by rfl⟩ ?_ ?_
      · rintro pr l po ρ' e2 ⟨v2, v3, v4, v5, v6, v7, v8, v9, v10, v11, v13, v14, v16, v22, v23, rfl⟩
        obtain ⟨s, hs, hts, rfl⟩ := lines_in (show l ∈ linesS 2 (1 + j2) by rw [e2]; simp)
        have sl := (mem_wds.mp hs).1
        refine ⟨_, atI_nat (j := 0) (show ((lineOf 2 s).map tN)[0]? = some (tN (putW 2 0 s)) from rfl), _, atI_nat (j := 1) (show ((lineOf 2 s).map tN)[1]? = some (tN (putW 2 1 s)) from rfl), ?_⟩
        refine lcT (fun p : Nat × Nat => .tuple [.int (p.1 : Int), .int (p.2 : Int)]) ((putW 2 0 s).zip (putW 2 1 s)) (fun p => !decide (p.1 = p.2)) (fun _ => .int 1) (ziD_map _ _ _ _) (by rw [List.length_zip, putW_len, putW_len, sl]; exact Nat.le_trans (show _ ≤ 4 by omega) (by decide)) (fun p hp Qy Qn q1 q2 => ⟨fun h => q1 (by rw [← nat_ne]; exact h), fun h => q2 (by rw [← nat_ne]; exact h)⟩) ?_
        have hst : ((((putW 2 0 s).zip (putW 2 1 s)).filter fun p => !decide (p.1 = p.2)).map fun _ => PyData.int 1).length = starsN 2 s := by rw [List.length_map, zip_stars]
        have hmo := tly_mono (k := 1 + i) hs
        refine ⟨by omega, fun h => ?_, fun h => ?_⟩
        · rw [Bool.false_xor, decide_eq_true_eq, hst] at h
          have hz : starsN 2 s % (1 + i) = 0 := by
            have : ((starsN 2 s % (1 + i) : Nat) : Int) = 0 := by rw [Int.natCast_emod]; exact h
            omega
          refine ⟨?_, v2, v3, v4, v5, v6, v7, v8, v9, v10, v11, v13, v14, v16, some (.d (fN (lineOf 2 s))), some (.d (.int (((((putW 2 0 s).zip (putW 2 1 s)).filter fun p => !decide (p.1 = p.2)).map fun _ => PyData.int 1).length : Nat))), ?_⟩
          · rw [List.length_map]
            have h1 := List.length_filter_le (fun l : List (List Nat) => mono (tlyR (1 + j2) (1 + i)) (l.map fun w => wpl 2 w + 1)) pr
            have h3 := congrArg List.length e2
            rw [List.length_append, List.length_cons] at h3
            exact Nat.lt_of_le_of_lt (show _ ≤ 81 by omega) (by decide)
          · rw [show (pr ++ [lineOf 2 s]).filter (fun l => mono (tlyR (1 + j2) (1 + i)) (l.map fun w => wpl 2 w + 1)) = pr.filter (fun l => mono (tlyR (1 + j2) (1 + i)) (l.map fun w => wpl 2 w + 1)) ++ [lineOf 2 s] by rw [List.filter_append]; congr 1; exact List.filter_cons_of_pos (by rw [hmo]; exact decide_eq_true hz), List.map_append]
            rfl
        · rw [Bool.false_xor, decide_eq_false_iff_not, hst] at h
          have hz : ¬ starsN 2 s % (1 + i) = 0 := fun e => h (by
            have : ((starsN 2 s % (1 + i) : Nat) : Int) = 0 := by rw [e]; rfl
            rw [Int.natCast_emod] at this
            exact this)
          refine ⟨v2, v3, v4, v5, v6, v7, v8, v9, v10, v11, v13, v14, v16, some (.d (fN (lineOf 2 s))), some (.d (.int (((((putW 2 0 s).zip (putW 2 1 s)).filter fun p => !decide (p.1 = p.2)).map fun _ => PyData.int 1).length : Nat))), ?_⟩
          rw [show (pr ++ [lineOf 2 s]).filter (fun l => mono (tlyR (1 + j2) (1 + i)) (l.map fun w => wpl 2 w + 1)) = pr.filter (fun l => mono (tlyR (1 + j2) (1 + i)) (l.map fun w => wpl 2 w + 1)) by rw [List.filter_append]; rw [show [lineOf 2 s].filter (fun l => mono (tlyR (1 + j2) (1 + i)) (l.map fun w => wpl 2 w + 1)) = [] from List.filter_cons_of_neg (by rw [hmo]; simpa using hz), List.append_nil]]
          rfl
      rintro ρ' ⟨v2, v3, v4, v5, v6, v7, v8, v9, v10, v11, v13, v14, v16, v22, v23, rfl⟩
      have so : Sm (oD fN o) 3 ((68 * 4 + 3 + 2) * 2 + 3) := sm_oF (fun l e => by
        obtain ⟨s, hs, _, rfl⟩ := lines_in (List.mem_of_find?_eq_some (ho.trans e))
        exact sm_tup (sm_maps (fun w hw => sm_tN (fun x hx => by have := (mem_wds.mp (line_words hs hw)).2 x hx; omega) (by rw [(mem_wds.mp (line_words hs hw)).1]; omega)) (by rw [line_len]; exact Nat.le_refl 2))) (by decide)
      have r1 := so.rp (by decide) (by decide)
      refine ⟨_, rfl, r1.1, r1.2.1, r1.2.2, ?_⟩
      refine ⟨min_nil _, fun h => ?_, fun h => ?_⟩
      · cases e3 : (linesS 2 (1 + j2)).filter fun l => mono (tlyR (1 + j2) (1 + i)) (l.map fun w => wpl 2 w + 1) with
        | nil => rw [e3, eqv_nilF] at h; simp at h
        | cons l ls =>
          rw [e3] at ef
          obtain rfl : o = some l := ef
          refine ⟨_, atI_nat (j := 0) (show ((l :: ls).map fN)[0]? = some (fN l) from rfl), ?_⟩
          have hd : decide (((1 + j2 : Nat) : Int) < 1 + (i : Int)) = false := by
            have := of_decide_eq_false hno.symm
            rw [decide_eq_false_iff_not]; omega
          refine ⟨_, rfl, r1.1, r1.2.1, r1.2.2, fun h => ne_no rfl h, fun _ => ⟨min_bl _ _, fun h => ?_, fun _ => ?_⟩⟩
          · rw [eqv_bl, hd] at h; cases h
          · obtain ⟨s, hs, hts, el⟩ := lines_in (List.mem_of_find?_eq_some ho)
            have hm := firstLn_some ho
            subst el
            have w0 := putW_mem (t := 2) (x := 0) (by decide) hs
            have w1 := putW_mem (t := 2) (x := 1) (by decide) hs
            refine ⟨fun _ => ⟨_, atI_nat (j := 0) (show ((lineOf 2 s).map tN)[0]? = some (tN (putW 2 0 s)) from rfl), _, lookV_pl w0, _, atI_lN (by rw [tly_len]; exact wpl_lt w0) rfl, _, atI_nat (j := 1) (show ((lineOf 2 s).map tN)[1]? = some (tN (putW 2 1 s)) from rfl), _, lookV_pl w1, _, atI_lN (by rw [tly_len]; exact wpl_lt w1) rfl, fun h => ne_no ?_ h, fun _ => ⟨v2, v3, v4, v5, v6, v7, v8, v9, v10, v11, _, v13, v14, _, v16, _, _, v22, v23, by rfl⟩⟩, fun h => (nomatch h)⟩
            rw [mono_two (r := []) hm]
      · cases e3 : (linesS 2 (1 + j2)).filter fun l => mono (tlyR (1 + j2) (1 + i)) (l.map fun w => wpl 2 w + 1) with
        | nil =>
          rw [e3] at ef
          obtain rfl : o = none := ef
          have hd : decide (((1 + j2 : Nat) : Int) < 1 + (i : Int)) = true := by
            have := of_decide_eq_true hno.symm
            rw [decide_eq_true_eq]; omega
          refine ⟨_, rfl, r1.1, r1.2.1, r1.2.2, fun h => ne_no rfl h, fun _ => ⟨min_bl _ _, fun h => ?_, fun _ => ?_⟩⟩
          · rw [eqv_bl, hd] at h; cases h
          · exact ⟨fun h => (nomatch h), fun _ => ⟨fun h => (nomatch h), fun _ => ⟨v2, v3, v4, v5, v6, v7, v8, v9, v10, v11, _, v13, v14, _, v16, _, _, v22, v23, by rfl⟩⟩⟩
        | cons l ls => rw [e3, eqv_nilF] at h; simp at h
    rintro ρ' ⟨v2, v3, v4, v5, v6, v7, v8, v9, v10, v11, v12, v13, v14, v15, v16, v20, v21, v22, v23, rfl⟩
    exact rfl
end
end K47
namespace K47
open PySem L2 Gk Dl Ca
theorem all_mk {l : PySem.W.OpenLaw} {w : World} {K : PySem.W.Frag} {h : Heap} {mg : Str → Option Value} {fa : Addr} (X : K.In h) (G : h.Ns mainGlobals mg) (hfa : mg "law" = some (.ref fa))
    {f0 f1 f2 f3 f4 f5 f6 f7 f8 f9 f10 f11 f12 f13 f14 f15 f16 f17 f18 f19 f20 : Addr} {od0 an0 od1 an1 od2 an2 od3 an3 od4 an4 od5 an5 od6 an6 od7 an7 od8 an8 od9 an9 od10 an10 od11 an11 od12 an12 od13 an13 od14 an14 od15 an15 od16 an16 od17 an17 od18 an18 od19 an19 od20 an20 : Option Addr} {sl0 sl1 sl2 sl3 sl4 sl5 sl6 sl7 sl8 sl9 sl10 sl11 sl12 sl13 sl14 sl15 sl16 sl17 sl18 sl19 sl20 : Array (Option Value)} {oc0 kV0 dc0 pm0 cd0 ct0 oc1 kV1 dc1 pm1 cd1 ct1 oc2 kV2 dc2 pm2 cd2 ct2 oc3 kV3 dc3 pm3 cd3 ct3 oc4 kV4 dc4 pm4 cd4 ct4 oc5 kV5 dc5 pm5 cd5 ct5 oc6 kV6 dc6 pm6 cd6 ct6 oc7 kV7 dc7 pm7 cd7 ct7 oc8 kV8 dc8 pm8 cd8 ct8 oc9 kV9 dc9 pm9 cd9 ct9 oc10 kV10 dc10 pm10 cd10 ct10 oc11 kV11 dc11 pm11 cd11 ct11 oc12 kV12 dc12 pm12 cd12 ct12 oc13 kV13 dc13 pm13 cd13 ct13 oc14 kV14 dc14 pm14 cd14 ct14 oc15 kV15 dc15 pm15 cd15 ct15 oc16 kV16 dc16 pm16 cd16 ct16 oc17 kV17 dc17 pm17 cd17 ct17 oc18 kV18 dc18 pm18 cd18 ct18 oc19 kV19 dc19 pm19 cd19 ct19 oc20 kV20 dc20 pm20 cd20 ct20 : Value}
    (a0 : PySem.W.nsIn K mainGlobals "sums_to" = some (some (.ref f0))) (l0 : K.lookup f0 = some ⟨oc0, od0, .func (PySem.W.fnOf "sums_to" "sums_to" (defArgs s_sums_to) (defBody s_sums_to) (defScope s_sums_to) .none kV0 dc0 pm0 an0 cd0 ct0), sl0⟩) (c0 : PySem.W.codeIn K cd0 "sums_to" = true) (k0 : PySem.W.keepIn K (.ref f0) = true)
    (a1 : PySem.W.nsIn K mainGlobals "rows_to" = some (some (.ref f1))) (l1 : K.lookup f1 = some ⟨oc1, od1, .func (PySem.W.fnOf "rows_to" "rows_to" (defArgs s_rows_to) (defBody s_rows_to) (defScope s_rows_to) .none kV1 dc1 pm1 an1 cd1 ct1), sl1⟩) (c1 : PySem.W.codeIn K cd1 "rows_to" = true) (k1 : PySem.W.keepIn K (.ref f1) = true)
    (a2 : PySem.W.nsIn K mainGlobals "shape_tuples" = some (some (.ref f2))) (l2 : K.lookup f2 = some ⟨oc2, od2, .func (PySem.W.fnOf "shape_tuples" "shape_tuples" (defArgs s_shape_tuples) (defBody s_shape_tuples) (defScope s_shape_tuples) .none kV2 dc2 pm2 an2 cd2 ct2), sl2⟩) (c2 : PySem.W.codeIn K cd2 "shape_tuples" = true) (k2 : PySem.W.keepIn K (.ref f2) = true)
    (a3 : PySem.W.nsIn K mainGlobals "is_of_one_color" = some (some (.ref f3))) (l3 : K.lookup f3 = some ⟨oc3, od3, .func (PySem.W.fnOf "is_of_one_color" "is_of_one_color" (defArgs s_is_of_one_color) (defBody s_is_of_one_color) (defScope s_is_of_one_color) .none kV3 dc3 pm3 an3 cd3 ct3), sl3⟩) (c3 : PySem.W.codeIn K cd3 "is_of_one_color" = true) (k3 : PySem.W.keepIn K (.ref f3) = true)
    (a4 : PySem.W.nsIn K mainGlobals "first_found" = some (some (.ref f4))) (l4 : K.lookup f4 = some ⟨oc4, od4, .func (PySem.W.fnOf "first_found" "first_found" (defArgs s_first_found) (defBody s_first_found) (defScope s_first_found) .none kV4 dc4 pm4 an4 cd4 ct4), sl4⟩) (c4 : PySem.W.codeIn K cd4 "first_found" = true) (k4 : PySem.W.keepIn K (.ref f4) = true)
    (a5 : PySem.W.nsIn K mainGlobals "is_free_of" = some (some (.ref f5))) (l5 : K.lookup f5 = some ⟨oc5, od5, .func (PySem.W.fnOf "is_free_of" "is_free_of" (defArgs s_is_free_of) (defBody s_is_free_of) (defScope s_is_free_of) .none kV5 dc5 pm5 an5 cd5 ct5), sl5⟩) (c5 : PySem.W.codeIn K cd5 "is_free_of" = true) (k5 : PySem.W.keepIn K (.ref f5) = true)
    (a6 : PySem.W.nsIn K mainGlobals "words_of" = some (some (.ref f6))) (l6 : K.lookup f6 = some ⟨oc6, od6, .func (PySem.W.fnOf "words_of" "words_of" (defArgs s_words_of) (defBody s_words_of) (defScope s_words_of) .none kV6 dc6 pm6 an6 cd6 ct6), sl6⟩) (c6 : PySem.W.codeIn K cd6 "words_of" = true) (k6 : PySem.W.keepIn K (.ref f6) = true)
    (a7 : PySem.W.nsIn K mainGlobals "line_of_stars" = some (some (.ref f7))) (l7 : K.lookup f7 = some ⟨oc7, od7, .func (PySem.W.fnOf "line_of_stars" "line_of_stars" (defArgs s_line_of_stars) (defBody s_line_of_stars) (defScope s_line_of_stars) .none kV7 dc7 pm7 an7 cd7 ct7), sl7⟩) (c7 : PySem.W.codeIn K cd7 "line_of_stars" = true) (k7 : PySem.W.keepIn K (.ref f7) = true)
    (a8 : PySem.W.nsIn K mainGlobals "lines_of_words" = some (some (.ref f8))) (l8 : K.lookup f8 = some ⟨oc8, od8, .func (PySem.W.fnOf "lines_of_words" "lines_of_words" (defArgs s_lines_of_words) (defBody s_lines_of_words) (defScope s_lines_of_words) .none kV8 dc8 pm8 an8 cd8 ct8), sl8⟩) (c8 : PySem.W.codeIn K cd8 "lines_of_words" = true) (k8 : PySem.W.keepIn K (.ref f8) = true)
    (a9 : PySem.W.nsIn K mainGlobals "word_place" = some (some (.ref f9))) (l9 : K.lookup f9 = some ⟨oc9, od9, .func (PySem.W.fnOf "word_place" "word_place" (defArgs s_word_place) (defBody s_word_place) (defScope s_word_place) .none kV9 dc9 pm9 an9 cd9 ct9), sl9⟩) (c9 : PySem.W.codeIn K cd9 "word_place" = true) (k9 : PySem.W.keepIn K (.ref f9) = true)
    (a10 : PySem.W.nsIn K mainGlobals "first_line" = some (some (.ref f10))) (l10 : K.lookup f10 = some ⟨oc10, od10, .func (PySem.W.fnOf "first_line" "first_line" (defArgs s_first_line) (defBody s_first_line) (defScope s_first_line) .none kV10 dc10 pm10 an10 cd10 ct10), sl10⟩) (c10 : PySem.W.codeIn K cd10 "first_line" = true) (k10 : PySem.W.keepIn K (.ref f10) = true)
    (a11 : PySem.W.nsIn K mainGlobals "tally_row" = some (some (.ref f11))) (l11 : K.lookup f11 = some ⟨oc11, od11, .func (PySem.W.fnOf "tally_row" "tally_row" (defArgs s_tally_row) (defBody s_tally_row) (defScope s_tally_row) .none kV11 dc11 pm11 an11 cd11 ct11), sl11⟩) (c11 : PySem.W.codeIn K cd11 "tally_row" = true) (k11 : PySem.W.keepIn K (.ref f11) = true)
    (a12 : PySem.W.nsIn K mainGlobals "word_number" = some (some (.ref f12))) (l12 : K.lookup f12 = some ⟨oc12, od12, .func (PySem.W.fnOf "word_number" "word_number" (defArgs s_word_number) (defBody s_word_number) (defScope s_word_number) .none kV12 dc12 pm12 an12 cd12 ct12), sl12⟩) (c12 : PySem.W.codeIn K cd12 "word_number" = true) (k12 : PySem.W.keepIn K (.ref f12) = true)
    (a13 : PySem.W.nsIn K mainGlobals "line_row" = some (some (.ref f13))) (l13 : K.lookup f13 = some ⟨oc13, od13, .func (PySem.W.fnOf "line_row" "line_row" (defArgs s_line_row) (defBody s_line_row) (defScope s_line_row) .none kV13 dc13 pm13 an13 cd13 ct13), sl13⟩) (c13 : PySem.W.codeIn K cd13 "line_row" = true) (k13 : PySem.W.keepIn K (.ref f13) = true)
    (a14 : PySem.W.nsIn K mainGlobals "row_colors" = some (some (.ref f14))) (l14 : K.lookup f14 = some ⟨oc14, od14, .func (PySem.W.fnOf "row_colors" "row_colors" (defArgs s_row_colors) (defBody s_row_colors) (defScope s_row_colors) .none kV14 dc14 pm14 an14 cd14 ct14), sl14⟩) (c14 : PySem.W.codeIn K cd14 "row_colors" = true) (k14 : PySem.W.keepIn K (.ref f14) = true)
    (a15 : PySem.W.nsIn K mainGlobals "_law_open_cells" = some (some (.ref f15))) (l15 : K.lookup f15 = some ⟨oc15, od15, .func (PySem.W.fnOf "_law_open_cells" "_law_open_cells" (defArgs s__law_open_cells) (defBody s__law_open_cells) (defScope s__law_open_cells) .none kV15 dc15 pm15 an15 cd15 ct15), sl15⟩) (c15 : PySem.W.codeIn K cd15 "_law_open_cells" = true) (k15 : PySem.W.keepIn K (.ref f15) = true)
    (a16 : PySem.W.nsIn K mainGlobals "_law_pick" = some (some (.ref f16))) (l16 : K.lookup f16 = some ⟨oc16, od16, .func (PySem.W.fnOf "_law_pick" "_law_pick" (defArgs s__law_pick) (defBody s__law_pick) (defScope s__law_pick) .none kV16 dc16 pm16 an16 cd16 ct16), sl16⟩) (c16 : PySem.W.codeIn K cd16 "_law_pick" = true) (k16 : PySem.W.keepIn K (.ref f16) = true)
    (a17 : PySem.W.nsIn K mainGlobals "_law_of" = some (some (.ref f17))) (l17 : K.lookup f17 = some ⟨oc17, od17, .func (PySem.W.fnOf "_law_of" "_law_of" (defArgs s__law_of) (defBody s__law_of) (defScope s__law_of) .none kV17 dc17 pm17 an17 cd17 ct17), sl17⟩) (c17 : PySem.W.codeIn K cd17 "_law_of" = true) (k17 : PySem.W.keepIn K (.ref f17) = true)
    (a18 : PySem.W.nsIn K mainGlobals "_law_words" = some (some (.ref f18))) (l18 : K.lookup f18 = some ⟨oc18, od18, .func (PySem.W.fnOf "_law_words" "_law_words" (defArgs s__law_words) (defBody s__law_words) (defScope s__law_words) .none kV18 dc18 pm18 an18 cd18 ct18), sl18⟩) (c18 : PySem.W.codeIn K cd18 "_law_words" = true) (k18 : PySem.W.keepIn K (.ref f18) = true)
    (a19 : PySem.W.nsIn K mainGlobals "_law_lines" = some (some (.ref f19))) (l19 : K.lookup f19 = some ⟨oc19, od19, .func (PySem.W.fnOf "_law_lines" "_law_lines" (defArgs s__law_lines) (defBody s__law_lines) (defScope s__law_lines) .none kV19 dc19 pm19 an19 cd19 ct19), sl19⟩) (c19 : PySem.W.codeIn K cd19 "_law_lines" = true) (k19 : PySem.W.keepIn K (.ref f19) = true)
    (a20 : PySem.W.nsIn K mainGlobals "law" = some (some (.ref f20))) (l20 : K.lookup f20 = some ⟨oc20, od20, .func (PySem.W.fnOf "law" "law" (defArgs s_law) (defBody s_law) (defScope s_law) .none kV20 dc20 pm20 an20 cd20 ct20), sl20⟩) (c20 : PySem.W.codeIn K cd20 "law" = true) (k20 : PySem.W.keepIn K (.ref f20) = true)
    (z0 : PySem.W.nsIn K mainGlobals "abs" = some none)    (z1 : PySem.W.nsIn K mainGlobals "all" = some none)    (z2 : PySem.W.nsIn K mainGlobals "dict" = some none)    (z3 : PySem.W.nsIn K mainGlobals "enumerate" = some none)    (z4 : PySem.W.nsIn K mainGlobals "int" = some none)    (z5 : PySem.W.nsIn K mainGlobals "len" = some none)    (z6 : PySem.W.nsIn K mainGlobals "list" = some none)    (z7 : PySem.W.nsIn K mainGlobals "range" = some none)    (z8 : PySem.W.nsIn K mainGlobals "repr" = some none)    (z9 : PySem.W.nsIn K mainGlobals "sorted" = some none)    (z10 : PySem.W.nsIn K mainGlobals "sum" = some none)    (z11 : PySem.W.nsIn K mainGlobals "tuple" = some none)    (z12 : PySem.W.nsIn K mainGlobals "zip" = some none) :
    ∃ fd : FuncData, (∀ (s : Shared) (v : Value), BindsTo s fd ⟨[v], []⟩ [("script", v)]) ∧ ∀ base : Heap, K.In base → base.Ns mainGlobals mg → FnG l.prog w K mg base 5 fa fd ["script"] (spLaw K) := by
  have e := hfa.symm.trans (PySem.W.mg_of X G a20)
  cases e
  have B : Bl mg := ⟨PySem.W.mg_none_of X G z0, PySem.W.mg_none_of X G z1, PySem.W.mg_none_of X G z2, PySem.W.mg_none_of X G z3, PySem.W.mg_none_of X G z4, PySem.W.mg_none_of X G z5, PySem.W.mg_none_of X G z6, PySem.W.mg_none_of X G z7, PySem.W.mg_none_of X G z8, PySem.W.mg_none_of X G z9, PySem.W.mg_none_of X G z10, PySem.W.mg_none_of X G z11, PySem.W.mg_none_of X G z12⟩
  have F0 := fun_mk (st := s_sums_to) l0 c0 k0
  have D_sums_to : Df_sums_to K mg f0 _ := ⟨F0, PySem.W.mg_of X G a0, F0.binds (ps := ["many"]) fun _ _ _ _ _ _ us hl => match us, hl with | [_], _ => rfl⟩
  have F1 := fun_mk (st := s_rows_to) l1 c1 k1
  have D_rows_to : Df_rows_to K mg f1 _ := ⟨F1, PySem.W.mg_of X G a1, F1.binds (ps := ["length", "many"]) fun _ _ _ _ _ _ us hl => match us, hl with | [_, _], _ => rfl⟩
  have F2 := fun_mk (st := s_shape_tuples) l2 c2 k2
  have D_shape_tuples : Df_shape_tuples K mg f2 _ := ⟨F2, PySem.W.mg_of X G a2, F2.binds (ps := ["shape", "many"]) fun _ _ _ _ _ _ us hl => match us, hl with | [_, _], _ => rfl⟩
  have F3 := fun_mk (st := s_is_of_one_color) l3 c3 k3
  have D_is_of_one_color : Df_is_of_one_color K mg f3 _ := ⟨F3, PySem.W.mg_of X G a3, F3.binds (ps := ["coloring", "numbers"]) fun _ _ _ _ _ _ us hl => match us, hl with | [_, _], _ => rfl⟩
  have F4 := fun_mk (st := s_first_found) l4 c4 k4
  have D_first_found : Df_first_found K mg f4 _ := ⟨F4, PySem.W.mg_of X G a4, F4.binds (ps := ["shape", "coloring"]) fun _ _ _ _ _ _ us hl => match us, hl with | [_, _], _ => rfl⟩
  have F5 := fun_mk (st := s_is_free_of) l5 c5 k5
  have D_is_free_of : Df_is_free_of K mg f5 _ := ⟨F5, PySem.W.mg_of X G a5, F5.binds (ps := ["shape", "coloring"]) fun _ _ _ _ _ _ us hl => match us, hl with | [_, _], _ => rfl⟩
  have F6 := fun_mk (st := s_words_of) l6 c6 k6
  have D_words_of : Df_words_of K mg f6 _ := ⟨F6, PySem.W.mg_of X G a6, F6.binds (ps := ["t", "n"]) fun _ _ _ _ _ _ us hl => match us, hl with | [_, _], _ => rfl⟩
  have F7 := fun_mk (st := s_line_of_stars) l7 c7 k7
  have D_line_of_stars : Df_line_of_stars K mg f7 _ := ⟨F7, PySem.W.mg_of X G a7, F7.binds (ps := ["t", "stars"]) fun _ _ _ _ _ _ us hl => match us, hl with | [_, _], _ => rfl⟩
  have F8 := fun_mk (st := s_lines_of_words) l8 c8 k8
  have D_lines_of_words : Df_lines_of_words K mg f8 _ := ⟨F8, PySem.W.mg_of X G a8, F8.binds (ps := ["t", "n"]) fun _ _ _ _ _ _ us hl => match us, hl with | [_, _], _ => rfl⟩
  have F9 := fun_mk (st := s_word_place) l9 c9 k9
  have D_word_place : Df_word_place K mg f9 _ := ⟨F9, PySem.W.mg_of X G a9, F9.binds (ps := ["t", "word"]) fun _ _ _ _ _ _ us hl => match us, hl with | [_, _], _ => rfl⟩
  have F10 := fun_mk (st := s_first_line) l10 c10 k10
  have D_first_line : Df_first_line K mg f10 _ := ⟨F10, PySem.W.mg_of X G a10, F10.binds (ps := ["t", "n", "row"]) fun _ _ _ _ _ _ us hl => match us, hl with | [_, _, _], _ => rfl⟩
  have F11 := fun_mk (st := s_tally_row) l11 c11 k11
  have D_tally_row : Df_tally_row K mg f11 _ := ⟨F11, PySem.W.mg_of X G a11, F11.binds (ps := ["n", "k"]) fun _ _ _ _ _ _ us hl => match us, hl with | [_, _], _ => rfl⟩
  have F12 := fun_mk (st := s_word_number) l12 c12 k12
  have D_word_number : Df_word_number K mg f12 _ := ⟨F12, PySem.W.mg_of X G a12, F12.binds (ps := ["word"]) fun _ _ _ _ _ _ us hl => match us, hl with | [_], _ => rfl⟩
  have F13 := fun_mk (st := s_line_row) l13 c13 k13
  have D_line_row : Df_line_row K mg f13 _ := ⟨F13, PySem.W.mg_of X G a13, F13.binds (ps := ["line"]) fun _ _ _ _ _ _ us hl => match us, hl with | [_], _ => rfl⟩
  have F14 := fun_mk (st := s_row_colors) l14 c14 k14
  have D_row_colors : Df_row_colors K mg f14 _ := ⟨F14, PySem.W.mg_of X G a14, F14.binds (ps := ["t", "n", "coloring"]) fun _ _ _ _ _ _ us hl => match us, hl with | [_, _, _], _ => rfl⟩
  have F15 := fun_mk (st := s__law_open_cells) l15 c15 k15
  have D__law_open_cells : Df__law_open_cells K mg f15 _ := ⟨F15, PySem.W.mg_of X G a15, F15.binds (ps := ["script"]) fun _ _ _ _ _ _ us hl => match us, hl with | [_], _ => rfl⟩
  have F16 := fun_mk (st := s__law_pick) l16 c16 k16
  have D__law_pick : Df__law_pick K mg f16 _ := ⟨F16, PySem.W.mg_of X G a16, F16.binds (ps := ["source", "most"]) fun _ _ _ _ _ _ us hl => match us, hl with | [_, _], _ => rfl⟩
  have F17 := fun_mk (st := s__law_of) l17 c17 k17
  have D__law_of : Df__law_of K mg f17 _ := ⟨F17, PySem.W.mg_of X G a17, F17.binds (ps := ["source", "some"]) fun _ _ _ _ _ _ us hl => match us, hl with | [_, _], _ => rfl⟩
  have F18 := fun_mk (st := s__law_words) l18 c18 k18
  have D__law_words : Df__law_words K mg f18 _ := ⟨F18, PySem.W.mg_of X G a18, F18.binds (ps := ["t", "n"]) fun _ _ _ _ _ _ us hl => match us, hl with | [_, _], _ => rfl⟩
  have F19 := fun_mk (st := s__law_lines) l19 c19 k19
  have D__law_lines : Df__law_lines K mg f19 _ := ⟨F19, PySem.W.mg_of X G a19, F19.binds (ps := ["t", "n"]) fun _ _ _ _ _ _ us hl => match us, hl with | [_, _], _ => rfl⟩
  have F20 := fun_mk (st := s_law) l20 c20 k20
  have D_law : Df_law K mg fa _ := ⟨F20, PySem.W.mg_of X G a20, F20.binds (ps := ["script"]) fun _ _ _ _ _ _ us hl => match us, hl with | [_], _ => rfl⟩
  refine ⟨PySem.W.fnOf "law" "law" (defArgs s_law) (defBody s_law) (defScope s_law) .none kV20 dc20 pm20 an20 cd20 ct20, fun s v => .of_eq rfl, fun base _ _ => ?_⟩
  have G_sums_to : Ok_sums_to l.prog w K mg base f0 _ := ok_sums_to D_sums_to  B
  have G_rows_to : Ok_rows_to l.prog w K mg base f1 _ := ok_rows_to D_rows_to  B
  have G_shape_tuples : Ok_shape_tuples l.prog w K mg base f2 _ := ok_shape_tuples D_shape_tuples D_sums_to G_sums_to D_rows_to G_rows_to B
  have G_is_of_one_color : Ok_is_of_one_color l.prog w K mg base f3 _ := ok_is_of_one_color D_is_of_one_color  B
  have G_first_found : Ok_first_found l.prog w K mg base f4 _ := ok_first_found D_first_found D_shape_tuples G_shape_tuples D_is_of_one_color G_is_of_one_color B
  have G_is_free_of : Ok_is_free_of l.prog w K mg base f5 _ := ok_is_free_of D_is_free_of D_first_found G_first_found B
  have G_words_of : Ok_words_of l.prog w K mg base f6 _ := ok_words_of D_words_of  B
  have G_line_of_stars : Ok_line_of_stars l.prog w K mg base f7 _ := ok_line_of_stars D_line_of_stars  B
  have G_lines_of_words : Ok_lines_of_words l.prog w K mg base f8 _ := ok_lines_of_words D_lines_of_words D_words_of G_words_of D_line_of_stars G_line_of_stars B
  have G_word_place : Ok_word_place l.prog w K mg base f9 _ := ok_word_place D_word_place  B
  have G_first_line : Ok_first_line l.prog w K mg base f10 _ := ok_first_line D_first_line D_is_of_one_color G_is_of_one_color D_lines_of_words G_lines_of_words D_word_place G_word_place B
  have G_tally_row : Ok_tally_row l.prog w K mg base f11 _ := ok_tally_row D_tally_row D_words_of G_words_of B
  have G_word_number : Ok_word_number l.prog w K mg base f12 _ := ok_word_number D_word_number  B
  have G_line_row : Ok_line_row l.prog w K mg base f13 _ := ok_line_row D_line_row D_word_number G_word_number B
  have G_row_colors : Ok_row_colors l.prog w K mg base f14 _ := ok_row_colors D_row_colors D_words_of G_words_of D_word_number G_word_number B
  have G__law_open_cells : Ok__law_open_cells l.prog w K mg base f15 _ := ok__law_open_cells D__law_open_cells  B
  have G__law_pick : Ok__law_pick l.prog w K mg base f16 _ := ok__law_pick D__law_pick  B
  have G__law_of : Ok__law_of l.prog w K mg base f17 _ := ok__law_of D__law_of D__law_pick G__law_pick B
  have G__law_words : Ok__law_words l.prog w K mg base f18 _ := ok__law_words D__law_words  B
  have G__law_lines : Ok__law_lines l.prog w K mg base f19 _ := ok__law_lines D__law_lines D__law_words G__law_words B
  exact ok_law D_law D_first_found G_first_found D_is_free_of G_is_free_of D_words_of G_words_of D_lines_of_words G_lines_of_words D_first_line G_first_line D_tally_row G_tally_row D_word_number G_word_number D_line_row G_line_row D_row_colors G_row_colors D__law_open_cells G__law_open_cells D__law_pick G__law_pick D__law_of G__law_of D__law_words G__law_words D__law_lines G__law_lines B
end K47

open PySem PySem.W PyProof.Rows in
set_option maxRecDepth 100000 in
set_option maxHeartbeats 0 in
theorem PySem.Challenge.cw_lotsoflots_k47_whole_words_lines_and_row_holds : PySem.Challenge.rw_lotsoflots_k47_whole_words_lines_and_row.Holds := by
  w_on; o_law; k_head; (case hw => w_witness2)
  k_fill
  refine Gk.walk_ofG (l := PySem.Challenge.rw_lotsoflots_k47_whole_words_lines_and_row) (n := 63) (k := 5) (x := "script") (sp := Dl.spLaw) rfl (by decide) rfl ⟨rfl, by decide, by decide⟩ (fun w h Y => PySem.W.kIn_of Y) ?F (fun K H a ns hl _ hS => Dl.spLaw_start hl hS)
  case F =>
    intro w mg fa h KX G hmg
    refine' K47.all_mk KX G hmg ?a0 ?l0 ?c0 ?k0 ?a1 ?l1 ?c1 ?k1 ?a2 ?l2 ?c2 ?k2 ?a3 ?l3 ?c3 ?k3 ?a4 ?l4 ?c4 ?k4 ?a5 ?l5 ?c5 ?k5 ?a6 ?l6 ?c6 ?k6 ?a7 ?l7 ?c7 ?k7 ?a8 ?l8 ?c8 ?k8 ?a9 ?l9 ?c9 ?k9 ?a10 ?l10 ?c10 ?k10 ?a11 ?l11 ?c11 ?k11 ?a12 ?l12 ?c12 ?k12 ?a13 ?l13 ?c13 ?k13 ?a14 ?l14 ?c14 ?k14 ?a15 ?l15 ?c15 ?k15 ?a16 ?l16 ?c16 ?k16 ?a17 ?l17 ?c17 ?k17 ?a18 ?l18 ?c18 ?k18 ?a19 ?l19 ?c19 ?k19 ?a20 ?l20 ?c20 ?k20 ?z0 ?z1 ?z2 ?z3 ?z4 ?z5 ?z6 ?z7 ?z8 ?z9 ?z10 ?z11 ?z12
    (case a0 => k_is)
    (case l0 => k_is)
    (case c0 => k_is)
    (case k0 => k_is)
    (case a1 => k_is)
    (case l1 => k_is)
    (case c1 => k_is)
    (case k1 => k_is)
    (case a2 => k_is)
    (case l2 => k_is)
    (case c2 => k_is)
    (case k2 => k_is)
    (case a3 => k_is)
    (case l3 => k_is)
    (case c3 => k_is)
    (case k3 => k_is)
    (case a4 => k_is)
    (case l4 => k_is)
    (case c4 => k_is)
    (case k4 => k_is)
    (case a5 => k_is)
    (case l5 => k_is)
    (case c5 => k_is)
    (case k5 => k_is)
    (case a6 => k_is)
    (case l6 => k_is)
    (case c6 => k_is)
    (case k6 => k_is)
    (case a7 => k_is)
    (case l7 => k_is)
    (case c7 => k_is)
    (case k7 => k_is)
    (case a8 => k_is)
    (case l8 => k_is)
    (case c8 => k_is)
    (case k8 => k_is)
    (case a9 => k_is)
    (case l9 => k_is)
    (case c9 => k_is)
    (case k9 => k_is)
    (case a10 => k_is)
    (case l10 => k_is)
    (case c10 => k_is)
    (case k10 => k_is)
    (case a11 => k_is)
    (case l11 => k_is)
    (case c11 => k_is)
    (case k11 => k_is)
    (case a12 => k_is)
    (case l12 => k_is)
    (case c12 => k_is)
    (case k12 => k_is)
    (case a13 => k_is)
    (case l13 => k_is)
    (case c13 => k_is)
    (case k13 => k_is)
    (case a14 => k_is)
    (case l14 => k_is)
    (case c14 => k_is)
    (case k14 => k_is)
    (case a15 => k_is)
    (case l15 => k_is)
    (case c15 => k_is)
    (case k15 => k_is)
    (case a16 => k_is)
    (case l16 => k_is)
    (case c16 => k_is)
    (case k16 => k_is)
    (case a17 => k_is)
    (case l17 => k_is)
    (case c17 => k_is)
    (case k17 => k_is)
    (case a18 => k_is)
    (case l18 => k_is)
    (case c18 => k_is)
    (case k18 => k_is)
    (case a19 => k_is)
    (case l19 => k_is)
    (case c19 => k_is)
    (case k19 => k_is)
    (case a20 => k_is)
    (case l20 => k_is)
    (case c20 => k_is)
    (case k20 => k_is)
    (case z0 => k_is)
    (case z1 => k_is)
    (case z2 => k_is)
    (case z3 => k_is)
    (case z4 => k_is)
    (case z5 => k_is)
    (case z6 => k_is)
    (case z7 => k_is)
    (case z8 => k_is)
    (case z9 => k_is)
    (case z10 => k_is)
    (case z11 => k_is)
    (case z12 => k_is)
#print axioms PySem.Challenge.cw_lotsoflots_k47_whole_words_lines_and_row_holds
