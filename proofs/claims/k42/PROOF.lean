import PyProof.Rows.All
import Wide.All
import OpenK.AllK
import Wide.FinOn
import HandS.ForMost
import HandS.Wide
import HandS.WideBits
import HandS.Style
import HandS.TupMul
import HandS.TupAny
import HandS.Deep
import HandS.IsInst
import HandS.Zip
import HandS.Evl
import PySem.Challenge.RW_keptqubits_k42_whole_polynomials_never_w
set_option Elab.async false
set_option linter.all false
set_option maxRecDepth 100000
set_option maxHeartbeats 4000000
/-! the text, rules of our own, the law's end -/
namespace Kq
open PySem PySem.Spec PyProof.Rows L2
def topS (i : Nat) : Stmt := PySem.Challenge.pw_keptqubits_k42_whole_polynomials_never_w.main.body.getD i (.Pass ⟨0, 0, 0, 0⟩)
abbrev s_is_whole : Stmt := topS 4
theorem sc_is_whole : FnScope ["number"] ["number"] (defScope s_is_whole) := ⟨rfl, rfl, rfl, by decide +kernel, rfl, by decide +kernel, by decide +kernel⟩
abbrev s_is_ratio : Stmt := topS 5
theorem sc_is_ratio : FnScope ["number"] ["number"] (defScope s_is_ratio) := ⟨rfl, rfl, rfl, by decide +kernel, rfl, by decide +kernel, by decide +kernel⟩
abbrev s_common : Stmt := topS 6
theorem sc_common : FnScope ["one", "other"] ["one", "other"] (defScope s_common) := ⟨rfl, rfl, rfl, by decide +kernel, rfl, by decide +kernel, by decide +kernel⟩
abbrev s_lowest : Stmt := topS 7
theorem sc_lowest : FnScope ["top", "bottom", "by"] ["top", "bottom"] (defScope s_lowest) := ⟨rfl, rfl, rfl, by decide +kernel, rfl, by decide +kernel, by decide +kernel⟩
abbrev s_ratio_of : Stmt := topS 8
theorem sc_ratio_of : FnScope ["number"] ["number"] (defScope s_ratio_of) := ⟨rfl, rfl, rfl, by decide +kernel, rfl, by decide +kernel, by decide +kernel⟩
abbrev s_ratio_gap : Stmt := topS 9
theorem sc_ratio_gap : FnScope ["one", "other", "a", "b", "c", "d"] ["one", "other"] (defScope s_ratio_gap) := ⟨rfl, rfl, rfl, by decide +kernel, rfl, by decide +kernel, by decide +kernel⟩
abbrev s_trimmed : Stmt := topS 11
theorem sc_trimmed : FnScope ["row", "many", "by", "number"] ["row"] (defScope s_trimmed) := ⟨rfl, rfl, rfl, by decide +kernel, rfl, by decide +kernel, by decide +kernel⟩
abbrev s_whole_numbers : Stmt := topS 12
theorem sc_whole_numbers : FnScope ["row", "scale", "top", "bottom"] ["row"] (defScope s_whole_numbers) := ⟨rfl, rfl, rfl, by decide +kernel, rfl, by decide +kernel, by decide +kernel⟩
abbrev s_slope_of : Stmt := topS 13
theorem sc_slope_of : FnScope ["row", "power", "number"] ["row"] (defScope s_slope_of) := ⟨rfl, rfl, rfl, by decide +kernel, rfl, by decide +kernel, by decide +kernel⟩
abbrev s_shared : Stmt := topS 14
theorem sc_shared : FnScope ["row", "other", "rest", "quotient", "lead", "size", "sign", "at", "by", "number", "k"] ["row", "other"] (defScope s_shared) := ⟨rfl, rfl, rfl, by decide +kernel, rfl, by decide +kernel, by decide +kernel⟩
abbrev s_divisor_of_rows : Stmt := topS 15
theorem sc_divisor_of_rows : FnScope ["row", "other"] ["row", "other"] (defScope s_divisor_of_rows) := ⟨rfl, rfl, rfl, by decide +kernel, rfl, by decide +kernel, by decide +kernel⟩
abbrev s_single_zeros : Stmt := topS 16
theorem sc_single_zeros : FnScope ["row", "found"] ["row"] (defScope s_single_zeros) := ⟨rfl, rfl, rfl, by decide +kernel, rfl, by decide +kernel, by decide +kernel⟩
abbrev s_signs_at : Stmt := topS 17
theorem sc_signs_at : FnScope ["row", "point", "top", "bottom", "total", "power", "number"] ["row", "point"] (defScope s_signs_at) := ⟨rfl, rfl, rfl, by decide +kernel, rfl, by decide +kernel, by decide +kernel⟩
abbrev s_remainders : Stmt := topS 18
theorem sc_remainders : FnScope ["row", "found", "rest", "number"] ["row"] (defScope s_remainders) := ⟨rfl, rfl, rfl, by decide +kernel, rfl, by decide +kernel, by decide +kernel⟩
abbrev s_changes : Stmt := topS 19
theorem sc_changes : FnScope ["rows", "point", "signs", "sign", "one", "other", "row"] ["rows", "point"] (defScope s_changes) := ⟨rfl, rfl, rfl, by decide +kernel, rfl, by decide +kernel, by decide +kernel⟩
abbrev s_cut_between : Stmt := topS 20
theorem sc_cut_between : FnScope ["row", "low", "high", "part", "top", "point"] ["row", "low", "high"] (defScope s_cut_between) := ⟨rfl, rfl, rfl, by decide +kernel, rfl, by decide +kernel, by decide +kernel⟩
abbrev s_cuts_of : Stmt := topS 21
theorem sc_cuts_of : FnScope ["row", "rows", "found", "waiting", "low", "high", "many", "point"] ["row"] (defScope s_cuts_of) := ⟨rfl, rfl, rfl, by decide +kernel, rfl, by decide +kernel, by decide +kernel⟩
abbrev s_never_below : Stmt := topS 22
theorem sc_never_below : FnScope ["row", "numbers", "point", "number"] ["row"] (defScope s_never_below) := ⟨rfl, rfl, rfl, by decide +kernel, rfl, by decide +kernel, by decide +kernel⟩
abbrev s_gap_sums : Stmt := topS 25
theorem sc_gap_sums : FnScope ["one", "other", "a", "b"] ["one", "other"] (defScope s_gap_sums) := ⟨rfl, rfl, rfl, by decide +kernel, rfl, by decide +kernel, by decide +kernel⟩
abbrev s_told_polynomial : Stmt := topS 26
theorem sc_told_polynomial : FnScope ["value", "one"] ["value"] (defScope s_told_polynomial) := ⟨rfl, rfl, rfl, by decide +kernel, rfl, by decide +kernel, by decide +kernel⟩
abbrev s_never_worse : Stmt := topS 27
theorem sc_never_worse : FnScope ["one", "two", "first", "second", "many", "k"] ["one", "two"] (defScope s_never_worse) := ⟨rfl, rfl, rfl, by decide +kernel, rfl, by decide +kernel, by decide +kernel⟩
abbrev s_L_pen : Stmt := topS 29
theorem sc_L_pen : FnScope ["_law_script", "_law_fold", "_law_cell"] ["_law_script"] (defScope s_L_pen) := ⟨rfl, rfl, rfl, by decide +kernel, rfl, by decide +kernel, by decide +kernel⟩
abbrev s_L_draw : Stmt := topS 30
theorem sc_L_draw : FnScope ["_law_pen_here", "_law_many", "_law_cell", "_law_digit", "_law_mixed"] ["_law_pen_here", "_law_many"] (defScope s_L_draw) := ⟨rfl, rfl, rfl, by decide +kernel, rfl, by decide +kernel, by decide +kernel⟩
abbrev s_L_pick : Stmt := topS 31
theorem sc_L_pick : FnScope ["_law_pen_here", "_law_some"] ["_law_pen_here", "_law_some"] (defScope s_L_pick) := ⟨rfl, rfl, rfl, by decide +kernel, rfl, by decide +kernel, by decide +kernel⟩
abbrev s_L_gcd : Stmt := topS 32
theorem sc_L_gcd : FnScope ["_law_one", "_law_two", "_law_lap"] ["_law_one", "_law_two"] (defScope s_L_gcd) := ⟨rfl, rfl, rfl, by decide +kernel, rfl, by decide +kernel, by decide +kernel⟩
abbrev s_L_q : Stmt := topS 33
theorem sc_L_q : FnScope ["_law_top", "_law_bottom", "_law_by_here"] ["_law_top", "_law_bottom"] (defScope s_L_q) := ⟨rfl, rfl, rfl, by decide +kernel, rfl, by decide +kernel, by decide +kernel⟩
abbrev s_L_plus : Stmt := topS 34
theorem sc_L_plus : FnScope ["_law_one", "_law_two"] ["_law_one", "_law_two"] (defScope s_L_plus) := ⟨rfl, rfl, rfl, by decide +kernel, rfl, by decide +kernel, by decide +kernel⟩
abbrev s_L_by : Stmt := topS 35
theorem sc_L_by : FnScope ["_law_one", "_law_two"] ["_law_one", "_law_two"] (defScope s_L_by) := ⟨rfl, rfl, rfl, by decide +kernel, rfl, by decide +kernel, by decide +kernel⟩
abbrev s_L_less : Stmt := topS 36
theorem sc_L_less : FnScope ["_law_one", "_law_two"] ["_law_one", "_law_two"] (defScope s_L_less) := ⟨rfl, rfl, rfl, by decide +kernel, rfl, by decide +kernel, by decide +kernel⟩
abbrev s_L_is_whole : Stmt := topS 37
theorem sc_L_is_whole : FnScope ["_law_value"] ["_law_value"] (defScope s_L_is_whole) := ⟨rfl, rfl, rfl, by decide +kernel, rfl, by decide +kernel, by decide +kernel⟩
abbrev s_L_is_ratio : Stmt := topS 38
theorem sc_L_is_ratio : FnScope ["_law_value"] ["_law_value"] (defScope s_L_is_ratio) := ⟨rfl, rfl, rfl, by decide +kernel, rfl, by decide +kernel, by decide +kernel⟩
abbrev s_L_passed : Stmt := topS 39
theorem sc_L_passed : FnScope ["_law_pen_here", "_law_ratio", "_law_by_here"] ["_law_pen_here", "_law_ratio"] (defScope s_L_passed) := ⟨rfl, rfl, rfl, by decide +kernel, rfl, by decide +kernel, by decide +kernel⟩
abbrev s_L_trimmed : Stmt := topS 40
theorem sc_L_trimmed : FnScope ["_law_row", "_law_many", "_law_k"] ["_law_row"] (defScope s_L_trimmed) := ⟨rfl, rfl, rfl, by decide +kernel, rfl, by decide +kernel, by decide +kernel⟩
abbrev s_L_row_plus : Stmt := topS 41
theorem sc_L_row_plus : FnScope ["_law_one", "_law_two", "_law_many", "_law_left", "_law_right", "_law_a", "_law_b"] ["_law_one", "_law_two"] (defScope s_L_row_plus) := ⟨rfl, rfl, rfl, by decide +kernel, rfl, by decide +kernel, by decide +kernel⟩
abbrev s_L_row_times : Stmt := topS 42
theorem sc_L_row_times : FnScope ["_law_one", "_law_two", "_law_found", "_law_k", "_law_j"] ["_law_one", "_law_two"] (defScope s_L_row_times) := ⟨rfl, rfl, rfl, by decide +kernel, rfl, by decide +kernel, by decide +kernel⟩
abbrev s_L_row_at : Stmt := topS 43
theorem sc_L_row_at : FnScope ["_law_row", "_law_p", "_law_total", "_law_number"] ["_law_row", "_law_p"] (defScope s_L_row_at) := ⟨rfl, rfl, rfl, by decide +kernel, rfl, by decide +kernel, by decide +kernel⟩
abbrev s_L_root_factor : Stmt := topS 44
theorem sc_L_root_factor : FnScope ["_law_pen_here", "_law_bottom", "_law_root"] ["_law_pen_here"] (defScope s_L_root_factor) := ⟨rfl, rfl, rfl, by decide +kernel, rfl, by decide +kernel, by decide +kernel⟩
abbrev s_L_planted : Stmt := topS 45
theorem sc_L_planted : FnScope ["_law_pen_here", "_law_row", "_law_crossed", "_law_used", "_law_sign", "_law_lap", "_law_factor", "_law_times", "_law_k", "_law_others"] ["_law_pen_here"] (defScope s_L_planted) := ⟨rfl, rfl, rfl, by decide +kernel, rfl, by decide +kernel, by decide +kernel⟩
abbrev s_L_answer_right : Stmt := topS 46
theorem sc_L_answer_right : FnScope ["_law_one", "_law_two", "_law_row", "_law_due", "_law_told"] ["_law_one", "_law_two", "_law_row", "_law_due"] (defScope s_L_answer_right) := ⟨rfl, rfl, rfl, by decide +kernel, rfl, by decide +kernel, by decide +kernel⟩
abbrev s_law : Stmt := topS 47
theorem sc_law : FnScope ["_law_script", "_law_pen_here", "_law_lap", "_law_row", "_law_due", "_law_turned", "_law_base", "_law_one", "_law_two", "_law_back", "_law_k", "_law_number"] ["_law_script"] (defScope s_law) := ⟨rfl, rfl, rfl, by decide +kernel, rfl, by decide +kernel, by decide +kernel⟩
/-! ### a def that stands in the module, with its promise -/
def DefAt (K : PySem.W.Frag) (mg : Str → Option Value) (x : Str) (st : Stmt) (ps : List Str) : Prop :=
  ∃ f fd, Fun K x x st f fd ∧ mg x = some (.ref f) ∧ Binds K fd ps []
def Has (P : Program) (w : World) (K : PySem.W.Frag) (mg : Str → Option Value) (base : Heap) (x : Str) (ps : List Str) (k : Nat) (sp : Sp) : Prop :=
  ∃ f fd, FnOk P w K mg base CX0 k f fd ps sp ∧ mg x = some (.ref f) ∧ PySem.W.keepIn K (.ref f) = true ∧ Binds K fd ps []
section
variable {P : Program} {w : World} {K : PySem.W.Frag} {mg : Str → Option Value} {base : Heap}
theorem has_of {x : Str} {st : Stmt} {N ps : List Str} {k : Nat} {sp : Sp} (D : DefAt K mg x st ps) (S : FnScope N ps (defScope st)) (len : ∀ vs H Q E, sp vs H Q E → vs.length = ps.length)
    (hbody : ∀ (f : Addr) (cdv : Value) (A : Around) (outer : List Env) (s : Shared) (H : Hp) (vs : List V) (Q : VK) (E : XK), Room k (A.deeper (envOfC x (defScope st) s.heap.objs.size f cdv)) → sp vs H Q E →
      ∃ t, PSs (cxOf CX0 P w K mg base N x (defScope st) f cdv A outer s H E).nox (defBody st) t ∧ t { nx := fun _ H' => Q .non H', rt := Q } (start N vs) H) : Has P w K mg base x ps (k + 1) sp := by
  obtain ⟨f, fd, F, hm, hb⟩ := D
  exact ⟨f, fd, F.ok S len fun cdv A outer s H vs Q E hr h => hbody f cdv A outer s H vs Q E hr h, hm, F.kp, hb⟩
theorem Has.mono {x : Str} {ps : List Str} {j k : Nat} {sp : Sp} (G : Has P w K mg base x ps j sp) (h : j ≤ k) : Has P w K mg base x ps k sp := by
  obtain ⟨f, fd, F, r⟩ := G
  exact ⟨f, fd, F.mono h, r⟩
end
theorem pe_callH {X : Cx} {x : Str} {ps : List Str} {k : Nat} {sp : Sp} {p pos : Pos} {e : Expr} {es : List Expr} {t : TA} (G : Has X.prog X.w X.K X.mg X.base x ps k sp) (hr : Room k X.A) (hg : Gl X x)
    (ha : PA X (e :: es) t) (hdb : (x == ("__debug__" : Str)) = false := by decide) (he : starEach (e :: es) X.env = (false, eval e X.env) :: starEach es X.env := by rfl) (hpl : (backTo pos (starEach es X.env)).any (·.1) = false := by rfl) :
    PE X (.Call (.Name x p) (e :: es) [] pos) (tCall sp [] E0 t) := by
  obtain ⟨f, fd, F, hm, hk, hb⟩ := G
  exact pe_call F hr hg hm hk hb .nil pass0 ha hdb he hpl
/-! ### // by any positive divisor -/
structure Seer (X : Cx) : Prop where
  base : X.base.NoSeer
  tree : X.prog.given.tree = none
  deep : X.A.depth + Builtin.pylongFrames < recursionLimit
  run : ∃ env l, X.stack = env :: l ∧ env.scope.isGenerator = false ∧ env.scope.isCoroutine = false ∧ env.builtins = builtinsNs ∧ env.globals = mainGlobals
theorem Seer.blk {X : Cx} (h : Seer X) (s : Shared) (H : Hp) (scope : Scope) (env : Env) (fp : List Addr) : Seer (X.blk s H scope env fp) := ⟨h.base, h.tree, h.deep, h.run⟩
section
variable {X : Cx}
theorem op_fdivS (h : Seer X) : OpR X (binaryOp .FloorDiv) (rI (fun _ j => 0 < j) fun i j => .int (i / j)) := by
  intro pins s σ H x y v u Q I rx ry hq
  obtain ⟨i, j, rfl, rfl, hj, q⟩ := hq
  obtain ⟨t, rfl⟩ := rx
  obtain ⟨t', rfl⟩ := ry
  have hj' : (0 : Int) < j := hj
  obtain ⟨env, l, hs, g1, g2, g3, g4⟩ := h.run
  have hN : s.heap.NoSeer := h.base.keeps I.bk
  have fr : X.A.frames = some (env :: l) := by rw [I.ok.frames, hs]
  refine floordiv_int (by omega) ?_ (.inr (PylongRoom.of I.nolimit h.deep (SeerAt.of hN h.tree fr g1 g2 g3 g4)))
  rw [Int.fdiv_eq_ediv_of_nonneg i (by omega)]
  exact ⟨.int _, H, I.tok _, ⟨_, rfl⟩, q⟩
theorem ix_tupB {K : PySem.W.Frag} (e : X.K = K) : IxR X (rIxT K) := e ▸ ix_tup
/-! ### xs[i] op= e -/
def rGetL (K : PySem.W.Frag) : V → V → Hp → VK → Prop := fun o i H Q => ∃ p xs j v, o = .ref p ∧ i = .int (j : Nat) ∧ SqL K H p xs ∧ xs[j]? = some v ∧ Q v H
theorem get_list : PGet X (rGetL X.K) := by
  intro pins s σ H o i ov iv Q I ro ri h
  obtain ⟨p, xs, j, v, rfl, rfl, hq, he, q⟩ := h
  cases ro
  obtain ⟨t, rfl⟩ := ri
  obtain ⟨its, r, pl, hz⟩ := I.list hq
  obtain ⟨w, ew, rw'⟩ := r.get he
  have hl := r.length
  have hn := line63
  have hj := (List.getElem?_eq_some_iff.mp he).1
  refine wpAny_getItem_list (k := (j : Int)) pl.isList (by omega) (by omega) (x := w) (by simpa using ew) ⟨v, H, I, rw', q⟩
/-! ### tuple * 0, tuple * 1 -/
theorem tuple_mul1 (l : Addr) (items : Array Value) (n : Nat) (dd : Option Addr) (sl : Array (Option Value)) (u : Tok) :
    Meets (Builtin.«tuple.__mul__» ⟨[.ref l, .int 1 u], []⟩) (fun _ R s => s.heap.get? l = some { cls := .type "tuple", dict := dd, data := .seq items n, slots := sl } ∧
      R (.ok (.ret (Value.ref l))) s) :=
  .of_wp fun prog w A R s h => by
    obtain ⟨hp, g, d, tk, os⟩ := s
    obtain ⟨hl, h⟩ := h
    have f1 := AutoSeq1.idx_int
    have c0 : (decide ((1 : Int) < -(2 ^ 63)) || decide ((1 : Int) ≥ 2 ^ 63)) = false := by decide
    have c1 : (items.isEmpty || (1 : Int) == 1) = true := by simp
    wp_walk using wpAny_loadPart' hl
    repeat (first
      | (refine wpAny_ite_false (decide_eq_false (by rw [c0]; exact Bool.false_ne_true)) ?_; wp_walk using wpAny_loadPart' hl)
      | (refine wpAny_ite_true (decide_eq_true c1) ?_; wp_walk using wpAny_loadPart' hl))
    exact ⟨_, rfl, h⟩
theorem tuple_mul0 (l : Addr) (items : Array Value) (n : Nat) (dd : Option Addr) (sl : Array (Option Value)) (u : Tok) (hi : items.isEmpty = false) :
    Meets (Builtin.«tuple.__mul__» ⟨[.ref l, .int 0 u], []⟩) (fun _ R s => s.heap.get? l = some { cls := .type "tuple", dict := dd, data := .seq items n, slots := sl } ∧
      R (.ok (.ret (Value.ref s.heap.objs.size))) { s with heap := s.heap.push { cls := Value.type "tuple", data := Data.seq #[] }, toks := s.toks }) :=
  .of_wp fun prog w A R s h => by
    obtain ⟨hp, g, d, tk, os⟩ := s
    obtain ⟨hl, h⟩ := h
    have f1 := AutoSeq1.idx_int
    have c0 : (decide ((0 : Int) < -(2 ^ 63)) || decide ((0 : Int) ≥ 2 ^ 63)) = false := by decide
    have c1 : (items.isEmpty || (0 : Int) == 1) = false := by rw [hi]; rfl
    have c2 : (decide ((0 : Int) ≤ 0) || items.isEmpty) = true := by simp
    wp_walk using wpAny_loadPart' hl
    repeat (first
      | (refine wpAny_ite_false (decide_eq_false (by rw [c0]; exact Bool.false_ne_true)) ?_; wp_walk using wpAny_loadPart' hl)
      | (refine wpAny_ite_false (decide_eq_false (by rw [c1]; exact Bool.false_ne_true)) ?_; wp_walk using wpAny_loadPart' hl)
      | (refine wpAny_ite_true (decide_eq_true c2) ?_; wp_walk using wpAny_loadPart' hl))
    exact ⟨_, rfl, h⟩

/-- a tuple by 0, 1 or 2 -/
def rMulT (K : PySem.W.Frag) : R2 := fun x y H Q => ∃ l k xs, x = .ref l ∧ y = .int k ∧ SqT K H l xs ∧ xs ≠ [] ∧ xs.length ≤ 1000 ∧ 0 ≤ k ∧ k ≤ 2 ∧
  (k = 1 → Q (.ref l) H) ∧ (k ≠ 1 → ∀ p, H p = none → Q (.ref p) (upd H p (.tup (List.replicate k.toNat xs).flatten)))
theorem op_mulT : OpR X (binaryOp .Mult) (rMulT X.K) := by
  intro pins s σ H x y v u Q I rx ry h
  obtain ⟨l, k, xs, rfl, rfl, hT, hne, hz, h0, h2, q1, q2⟩ := h
  by_cases k2 : k = 2
  · subst k2
    exact op_repT pins s σ H _ _ v u Q I rx ry ⟨l, 2, xs, rfl, rfl, hT, hne, by decide, by decide, hz, q2 (by decide)⟩
  cases rx
  obtain ⟨t, rfl⟩ := ry
  obtain ⟨its, r, ⟨⟨cls, dd, data, sl⟩, ho, hc, n, hd⟩, hs⟩ := I.tuple hT
  simp only at hc hd
  subst hc hd
  have hle : its.length = xs.length := r.length.symm
  have hn : its ≠ [] := fun e => hne (by
    rw [e] at hle
    exact List.eq_nil_of_length_eq_zero hle.symm)
  have hi : its.toArray.isEmpty = false := by
    cases its with
    | nil => exact absurd rfl hn
    | cons a b => rfl
  by_cases k1 : k = 1
  · subst k1
    refine wpAny_binaryOp_repeat_ref (T := "tuple") (U := "int") (by decide) ⟨_, ho, rfl⟩ (fun s' => typeIs_int s' 1 t) noFill_tuple_mul F.fills_int_mul F.slot_int_rmul repeat_tuple F.slot_int_index.lookup
      (call_meets F.slot_int_rmul (typeIs_int s 1 t) F.entry_int_rmul (F.args_int_rmul_2 _ _) (int_rmul_tuple 1 t l its.toArray n dd sl)
        ⟨ho, rfl, ⟨_, ho, rfl⟩, call_meets F.slot_tuple_mul ⟨_, ho, rfl⟩ F.entry_tuple_mul (F.args_tuple_mul_2 _ _) (tuple_mul1 l its.toArray n dd sl t) ⟨ho, ?_⟩⟩)
    exact ⟨.ref l, H, I, rfl, q1 rfl⟩
  · have k0 : k = 0 := by omega
    subst k0
    refine wpAny_binaryOp_repeat_ref (T := "tuple") (U := "int") (by decide) ⟨_, ho, rfl⟩ (fun s' => typeIs_int s' 0 t) noFill_tuple_mul F.fills_int_mul F.slot_int_rmul repeat_tuple F.slot_int_index.lookup
      (call_meets F.slot_int_rmul (typeIs_int s 0 t) F.entry_int_rmul (F.args_int_rmul_2 _ _) (int_rmul_tuple 0 t l its.toArray n dd sl)
        ⟨ho, rfl, ⟨_, ho, rfl⟩, call_meets F.slot_tuple_mul ⟨_, ho, rfl⟩ F.entry_tuple_mul (F.args_tuple_mul_2 _ _) (tuple_mul0 l its.toArray n dd sl t hi) ⟨ho, ?_⟩⟩)
    refine ⟨.ref s.heap.objs.size, _, I.laid (t' := s.toks) (o := .tup []) (fun b ob q => Heap.get?_push_of_some _ q) (Nat.le_refl _) ?_, rfl, q2 (by decide) _ (I.hok.fresh (Nat.le_refl _))⟩
    exact ⟨Nat.zero_le _, [], .nil, IsTup.new _ _⟩
end
/-! ### a larger written part, that bears what the division asks -/
def KLe (K K' : PySem.W.Frag) : Prop := ∀ a o, K.lookup a = some o → K'.lookup a = some o
theorem lookup_app {K L : PySem.W.Frag} {a : Addr} : (K ++ L).lookup a = (K.lookup a).or (L.lookup a) := by
  induction K with
  | nil => rfl
  | cons p r ih =>
    obtain ⟨b, o⟩ := p
    rw [List.cons_append, List.lookup_cons, List.lookup_cons]
    split
    · rfl
    · exact ih
theorem kle_app {K L : PySem.W.Frag} : KLe K (K ++ L) := fun a o e => by
  rw [lookup_app, e]
  rfl
theorem in_app {K L : PySem.W.Frag} {h : Heap} (a : K.In h) (b : L.In h) : PySem.W.Frag.In (K ++ L) h := fun c o e => by
  rw [lookup_app] at e
  cases q : K.lookup c with
  | some u => rw [q] at e; exact a c o (q.trans e)
  | none => rw [q] at e; exact b c o e
theorem KLe.code {K K' : PySem.W.Frag} (l : KLe K K') {cd : Value} {q : Str} (e : PySem.W.codeIn K cd q = true) : PySem.W.codeIn K' cd q = true := by
  unfold PySem.W.codeIn at e ⊢
  cases cd with
  | ref c =>
    dsimp only at e ⊢
    cases h : K.lookup c with
    | none => rw [h] at e; cases e
    | some o => rw [l _ _ h]; rw [h] at e; exact e
  | _ => cases e
theorem fun_le {K K' : PySem.W.Frag} (l : KLe K K') {x qual : Str} {st : Stmt} {f : Addr} {fd : FuncData} (F : Fun K x qual st f fd) : Fun K' x qual st f fd := by
  obtain ⟨oc, od, kV, doc, pm, an, cdv, ct, osl, rfl, lk, hcd⟩ := F.ex
  refine ⟨⟨oc, od, kV, doc, pm, an, cdv, ct, osl, rfl, l _ _ lk, l.code hcd⟩, ?_⟩
  unfold PySem.W.keepIn
  dsimp only
  rw [l _ _ lk]
theorem keep_le {K K' : PySem.W.Frag} (l : KLe K K') {fd : FuncData} {f : Addr} {a : Value} {b : Option Addr} {c : Array (Option Value)} (h : K.lookup f = some ⟨a, b, .func fd, c⟩) : PySem.W.keepIn K' (.ref f) = true := by
  unfold PySem.W.keepIn
  dsimp only
  rw [l _ _ h]
theorem ns_obj {h h' : Heap} {a : Addr} {m : Str → Option Value} (n : h.Ns a m) (k : ∀ o, h.get? a = some o → h'.get? a = some o) : h'.Ns a m := by
  obtain ⟨o, es, ep, e, r⟩ := n
  exact ⟨o, es, ep, k o e, r⟩
theorem one_in {h : Heap} {a : Addr} {o : Obj} (e : h.get? a = some o) : PySem.W.Frag.In [(a, o)] h := fun b u q => by
  rw [List.lookup_cons] at q
  split at q
  · rename_i z
    have z' : b = a := by simpa using z
    subst z'
    cases q
    exact e
  · cases q
theorem in_of_app {K L : PySem.W.Frag} {a : Addr} {o : Obj} {h base : Heap} (hh : PySem.W.Frag.In (K ++ L) h) (e : h.get? a = some o) (i : ∃ u, L.lookup a = some u) (hb : PySem.W.Frag.In (K ++ L) base) : base.get? a = some o := by
  have : ∃ u, (K ++ L).lookup a = some u := by
    rw [lookup_app]
    cases q : K.lookup a with
    | some u => exact ⟨u, rfl⟩
    | none =>
      obtain ⟨u, z⟩ := i
      exact ⟨u, z⟩
  obtain ⟨u, z⟩ := this
  have e2 := hh a u z
  rw [e] at e2
  cases e2
  exact hb a o z
theorem seer_frag {K : PySem.W.Frag} {h : Heap} (KX : K.In h) (hs : h.NoSeer) : ∃ K', KLe K K' ∧ K'.In h ∧ ∀ base : Heap, K'.In base → base.NoSeer := by
  obtain ⟨mc, nc, c1⟩ := hs.statics
  obtain ⟨mm, nm, m1⟩ := hs.mods
  obtain ⟨mb, nb, b0⟩ := hs.imp
  obtain ⟨mg, bm, ob, ng, g1, g2, g3⟩ := hs.main
  obtain ⟨o1, _, _, e1, _⟩ := id nc
  obtain ⟨o2, _, _, e2, _⟩ := id nm
  obtain ⟨o3, _, _, e3, _⟩ := id nb
  obtain ⟨o4, _, _, e4, _⟩ := id ng
  have hL : PySem.W.Frag.In ([(cStatics, o1)] ++ ([(sysModules, o2)] ++ ([(builtinsNs, o3)] ++ ([(mainGlobals, o4)] ++ [(bm, ob)])))) h :=
    in_app (one_in e1) (in_app (one_in e2) (in_app (one_in e3) (in_app (one_in e4) (one_in g2))))
  have hK := in_app KX hL
  have has : ∀ (L M N : PySem.W.Frag) (a : Addr) (o : Obj), L = M ++ ([(a, o)] ++ N) → ∃ u, L.lookup a = some u := fun L M N a o e => by
    subst e
    rw [lookup_app, lookup_app]
    cases M.lookup a with
    | some u => exact ⟨u, rfl⟩
    | none =>
      refine ⟨o, ?_⟩
      rw [List.lookup_cons, beq_self_eq_true]
      rfl
  refine ⟨_, kle_app, hK, fun base hB => ⟨⟨mc, ns_obj nc fun o e => ?_, c1⟩, ⟨mm, ns_obj nm fun o e => ?_, m1⟩, ⟨mb, ns_obj nb fun o e => ?_, b0⟩, ⟨mg, bm, ob, ns_obj ng fun o e => ?_, g1, ?_, g3⟩⟩⟩
  · exact in_of_app hK e (has _ [] _ _ o1 rfl) hB
  · exact in_of_app hK e (has _ [(cStatics, o1)] _ _ o2 rfl) hB
  · exact in_of_app hK e (has _ [(cStatics, o1), (sysModules, o2)] _ _ o3 rfl) hB
  · exact in_of_app hK e (has _ [(cStatics, o1), (sysModules, o2), (builtinsNs, o3)] _ _ o4 rfl) hB
  · exact in_of_app hK g2 (has _ [(cStatics, o1), (sysModules, o2), (builtinsNs, o3), (mainGlobals, o4)] [] _ ob rfl) hB
structure Txt (K : PySem.W.Frag) (mg : Str → Option Value) : Prop where
  d_is_whole : DefAt K mg "is_whole" s_is_whole ["number"]
  d_is_ratio : DefAt K mg "is_ratio" s_is_ratio ["number"]
  d_common : DefAt K mg "common" s_common ["one", "other"]
  d_lowest : DefAt K mg "lowest" s_lowest ["top", "bottom"]
  d_ratio_of : DefAt K mg "ratio_of" s_ratio_of ["number"]
  d_ratio_gap : DefAt K mg "ratio_gap" s_ratio_gap ["one", "other"]
  d_trimmed : DefAt K mg "trimmed" s_trimmed ["row"]
  d_whole_numbers : DefAt K mg "whole_numbers" s_whole_numbers ["row"]
  d_slope_of : DefAt K mg "slope_of" s_slope_of ["row"]
  d_shared : DefAt K mg "shared" s_shared ["row", "other"]
  d_divisor_of_rows : DefAt K mg "divisor_of_rows" s_divisor_of_rows ["row", "other"]
  d_single_zeros : DefAt K mg "single_zeros" s_single_zeros ["row"]
  d_signs_at : DefAt K mg "signs_at" s_signs_at ["row", "point"]
  d_remainders : DefAt K mg "remainders" s_remainders ["row"]
  d_changes : DefAt K mg "changes" s_changes ["rows", "point"]
  d_cut_between : DefAt K mg "cut_between" s_cut_between ["row", "low", "high"]
  d_cuts_of : DefAt K mg "cuts_of" s_cuts_of ["row"]
  d_never_below : DefAt K mg "never_below" s_never_below ["row"]
  d_gap_sums : DefAt K mg "gap_sums" s_gap_sums ["one", "other"]
  d_told_polynomial : DefAt K mg "told_polynomial" s_told_polynomial ["value"]
  d_never_worse : DefAt K mg "never_worse" s_never_worse ["one", "two"]
  d_L_pen : DefAt K mg "_law_pen" s_L_pen ["_law_script"]
  d_L_draw : DefAt K mg "_law_draw" s_L_draw ["_law_pen_here", "_law_many"]
  d_L_pick : DefAt K mg "_law_pick" s_L_pick ["_law_pen_here", "_law_some"]
  d_L_gcd : DefAt K mg "_law_gcd" s_L_gcd ["_law_one", "_law_two"]
  d_L_q : DefAt K mg "_law_q" s_L_q ["_law_top", "_law_bottom"]
  d_L_plus : DefAt K mg "_law_plus" s_L_plus ["_law_one", "_law_two"]
  d_L_by : DefAt K mg "_law_by" s_L_by ["_law_one", "_law_two"]
  d_L_less : DefAt K mg "_law_less" s_L_less ["_law_one", "_law_two"]
  d_L_is_whole : DefAt K mg "_law_is_whole" s_L_is_whole ["_law_value"]
  d_L_is_ratio : DefAt K mg "_law_is_ratio" s_L_is_ratio ["_law_value"]
  d_L_passed : DefAt K mg "_law_passed" s_L_passed ["_law_pen_here", "_law_ratio"]
  d_L_trimmed : DefAt K mg "_law_trimmed" s_L_trimmed ["_law_row"]
  d_L_row_plus : DefAt K mg "_law_row_plus" s_L_row_plus ["_law_one", "_law_two"]
  d_L_row_times : DefAt K mg "_law_row_times" s_L_row_times ["_law_one", "_law_two"]
  d_L_row_at : DefAt K mg "_law_row_at" s_L_row_at ["_law_row", "_law_p"]
  d_L_root_factor : DefAt K mg "_law_root_factor" s_L_root_factor ["_law_pen_here"]
  d_L_planted : DefAt K mg "_law_planted" s_L_planted ["_law_pen_here"]
  d_L_answer_right : DefAt K mg "_law_answer_right" s_L_answer_right ["_law_one", "_law_two", "_law_row", "_law_due"]
  d_law : DefAt K mg "law" s_law ["_law_script"]
  none0 : ∃ p, mg "NONE" = some (.ref p) ∧ ∀ H, SqT K H p [.int 0, .int 1]
  b_isinstance : mg "isinstance" = none
  b_int : mg "int" = none
  b_bool : mg "bool" = none
  b_tuple : mg "tuple" = none
  b_len : mg "len" = none
  b_abs : mg "abs" = none
  b_list : mg "list" = none
  b_max : mg "max" = none
  b_enumerate : mg "enumerate" = none
  b_sum : mg "sum" = none
  b_zip : mg "zip" = none
  b_range : mg "range" = none
  b_all : mg "all" = none
end Kq

set_option Elab.async false
set_option linter.all false
set_option maxRecDepth 100000
set_option maxHeartbeats 4000000
/-! heaps, and the module ratios -/
namespace Kq
open PySem PySem.Spec PyProof.Rows L2
/-! ### what the base bears -/
structure BaseOk (P : Program) (base : Heap) : Prop where
  seer : base.NoSeer
  tree : P.given.tree = none
section
variable {P : Program} {w : World} {K : PySem.W.Frag} {mg : Str → Option Value} {base : Heap}
theorem seer_cx {N : List Str} {x : Str} {sc : Scope} {f : Addr} {cdv : Value} {A : Around} {outer : List Env} {s : Shared} {H : Hp} {E : XK} {k : Nat} (B : BaseOk P base) (hr : Room k (A.deeper (envOfC x sc s.heap.objs.size f cdv)))
    (hk : 32 ≤ k) (g1 : sc.isGenerator = false) (g2 : sc.isCoroutine = false) : Seer (cxOf CX0 P w K mg base N x sc f cdv A outer s H E).nox := by
  refine ⟨B.seer, B.tree, ?_, ⟨_, outer, rfl, g1, g2, rfl, rfl⟩⟩
  have h := hr.dp
  show (A.deeper (envOfC x sc s.heap.objs.size f cdv)).depth + 100 < recursionLimit
  omega
end
/-! ### tests -/
theorem ifT {b : Bool} {A B : Prop} (h : b = true) (x : A) : if b = true then A else B := by
  rw [if_pos h]
  exact x
theorem ifF {b : Bool} {A B : Prop} (h : b = false) (x : B) : if b = true then A else B := by
  rw [if_neg (by rw [h]; decide)]
  exact x
/-! ### heaps -/
theorem same_new {H : Hp} {p : Addr} {o : HO} (h : H p = none) : Same H (upd H p o) := fun b x e => by
  rw [upd_ne (ne_of_none e h)]
  exact e
/-- changed at a place that H does not know -/
theorem same_mut {H H' : Hp} {p : Addr} {o : HO} (e : Same H H') (h : H p = none) : Same H (upd H' p o) := fun b x ha => by
  rw [upd_ne (ne_of_none ha h)]
  exact e b x ha
theorem Same.t {K : PySem.W.Frag} {H H' : Hp} {a : Addr} {xs : List V} (e : Same H H') (h : SqT K H a xs) : SqT K H' a xs := by
  rcases h with (h | ⟨o, h⟩) | h
  · exact .inl (.inl (e _ _ h))
  · exact .inl (.inr ⟨o, e _ _ h⟩)
  · exact .inr h
/-- a value that is small enough for every product -/
def Sm (x : Int) : Prop := ∃ n : Nat, n ≤ 60000000 ∧ x.natAbs < 2 ^ n
theorem mul_sm {i j : Int} (a : Sm i) (b : Sm j) : CMulX i j := by
  obtain ⟨n, hn, a⟩ := a
  obtain ⟨m, hm, b⟩ := b
  exact mulx_ok a b (by omega)
theorem sm_of {x : Int} {n : Nat} (h : x.natAbs < 2 ^ n) (hn : n ≤ 60000000) : Sm x := ⟨n, hn, h⟩
/-! ### what values stand for -/
def IsQ (K : PySem.W.Frag) (H : Hp) (v : V) (q : Rat) : Prop := ∃ p, v = .ref p ∧ SqT K H p [.int q.num, .int (q.den : Int)]
theorem IsQ.mono {K : PySem.W.Frag} {H H' : Hp} {v : V} {q : Rat} (e : Same H H') (h : IsQ K H v q) : IsQ K H' v q := by
  obtain ⟨p, r, t⟩ := h
  exact ⟨p, r, Same.t e t⟩
/-- a number as it may be passed: an int, or a pair in any terms -/
inductive IsN (K : PySem.W.Frag) (H : Hp) : V → Rat → Prop where
  | int (i : Int) : IsN K H (.int i) i
  | pair {p : Addr} {a b : Int} (h : SqT K H p [.int a, .int b]) (hb : 0 < b) : IsN K H (.ref p) (Rat.divInt a b)
theorem IsN.mono {K : PySem.W.Frag} {H H' : Hp} {v : V} {q : Rat} (e : Same H H') (h : IsN K H v q) : IsN K H' v q := by
  cases h with
  | int i => exact .int i
  | pair h hb => exact .pair (Same.t e h) hb
theorem IsQ.n {K : PySem.W.Frag} {H : Hp} {v : V} {q : Rat} (h : IsQ K H v q) : IsN K H v q := by
  obtain ⟨p, rfl, t⟩ := h
  have := IsN.pair (K := K) (H := H) t (by have := q.den_pos; omega)
  rwa [Rat.num_divInt_den] at this
/-- a list of things -/
def IsL (R : V → α → Prop) (H : Hp) (v : V) (xs : List α) : Prop := ∃ p vs, v = .ref p ∧ H p = some (.lst vs) ∧ Paired R vs xs
def IsT (K : PySem.W.Frag) (R : V → α → Prop) (H : Hp) (v : V) (xs : List α) : Prop := ∃ p vs, v = .ref p ∧ SqT K H p vs ∧ Paired R vs xs
def IsI (H : Hp) (v : V) (xs : List Int) : Prop := ∃ p, v = .ref p ∧ H p = some (.lst (xs.map V.int))
theorem IsI.mono {H H' : Hp} {v : V} {xs : List Int} (e : Same H H') (h : IsI H v xs) : IsI H' v xs := by
  obtain ⟨p, r, t⟩ := h
  exact ⟨p, r, e _ _ t⟩
theorem paired_get {R : V → α → Prop} : ∀ {vs : List V} {xs : List α} {i : Nat} {v : V}, Paired R vs xs → vs[i]? = some v → ∃ x, xs[i]? = some x ∧ R v x
  | _, _, _, _, .nil, e => by simp at e
  | _, _, 0, _, .cons r _, e => by simp at e; subst e; exact ⟨_, rfl, r⟩
  | _, _, i + 1, v, .cons _ t, e => by
    obtain ⟨x, h1, h2⟩ := paired_get (i := i) (v := v) t (by simpa using e)
    exact ⟨x, by simpa using h1, h2⟩
theorem paired_get' {R : V → α → Prop} : ∀ {vs : List V} {xs : List α} {i : Nat} {x : α}, Paired R vs xs → xs[i]? = some x → ∃ v, vs[i]? = some v ∧ R v x
  | _, _, _, _, .nil, e => by simp at e
  | _, _, 0, _, .cons r _, e => by simp at e; subst e; exact ⟨_, rfl, r⟩
  | _, _, i + 1, x, .cons _ t, e => by
    obtain ⟨v, h1, h2⟩ := paired_get' (i := i) (x := x) t (by simpa using e)
    exact ⟨v, by simpa using h1, h2⟩
theorem paired_snoc {R : V → α → Prop} : ∀ {vs : List V} {xs : List α} {v : V} {x : α}, Paired R vs xs → R v x → Paired R (vs ++ [v]) (xs ++ [x])
  | _, _, _, _, .nil, r => .cons r .nil
  | _, _, _, _, .cons q t, r => .cons q (paired_snoc t r)
theorem paired_mono {R S : V → α → Prop} {vs : List V} {xs : List α} (h : Paired R vs xs) (f : ∀ v x, R v x → S v x) : Paired S vs xs := Paired.mapP h f
theorem paired_app {R : V → α → Prop} : ∀ {vs ws : List V} {xs ys : List α}, Paired R vs xs → Paired R ws ys → Paired R (vs ++ ws) (xs ++ ys)
  | _, _, _, _, .nil, r => r
  | _, _, _, _, .cons q t, r => .cons q (paired_app t r)
/-! ### the ends of promises -/
def RetV (v : V) (H : Hp) (Q : VK) : Prop := ∀ H', Same H H' → Q v H'
def RetT (xs : List V) (H : Hp) (Q : VK) : Prop := ∀ p H', Same H H' → H' p = some (.tup xs) → Q (.ref p) H'
def RetL (xs : List V) (H : Hp) (Q : VK) : Prop := ∀ p H', Same H H' → H p = none → H' p = some (.lst xs) → Q (.ref p) H'
def RetP (R : V → Hp → Prop) (H : Hp) (Q : VK) : Prop := ∀ v H', Same H H' → R v H' → Q v H'
/-! ### promises -/
def sp_is_whole (K : PySem.W.Frag) : Sp := fun vs H Q _ => ∃ v b, vs = [v] ∧ ((∃ i, v = .int i ∧ b = true) ∨ (∃ p xs, v = .ref p ∧ SqT K H p xs ∧ b = false)) ∧ Q (.bl b) H
def sp_is_ratio (K : PySem.W.Frag) : Sp := fun vs H Q _ => ∃ v q, vs = [v] ∧ IsN K H v q ∧ Q (.bl true) H
def sp_common : Sp := fun vs H Q _ => ∃ a b : Int, vs = [.int a, .int b] ∧ Q (.int (Int.gcd a b : Nat)) H
def sp_lowest : Sp := fun vs H Q _ => ∃ a b : Int, vs = [.int a, .int b] ∧ 0 < b ∧ RetT [.int (Rat.divInt a b).num, .int ((Rat.divInt a b).den : Int)] H Q
def sp_ratio_of (K : PySem.W.Frag) : Sp := fun vs H Q _ => ∃ v q, vs = [v] ∧ IsN K H v q ∧ RetP (fun v H' => IsQ K H' v q) H Q
def sp_ratio_gap (K : PySem.W.Frag) : Sp := fun vs H Q _ => ∃ (v u : V) (q r : Rat), vs = [v, u] ∧ IsN K H v q ∧ IsN K H u r ∧ (Sm q.num ∧ Sm q.den ∧ Sm r.num ∧ Sm r.den) ∧ RetP (fun v H' => IsQ K H' v (q - r)) H Q
/-! ### types -/
theorem ty_tup {K : PySem.W.Frag} {H : Hp} {p : Addr} {xs : List V} (h : SqT K H p xs) : TyX K H (.ref p) (.type "tuple") := by
  rcases h with (h | ⟨o, h⟩) | ⟨o, _, _, h, hc, _⟩
  · exact .base (.tup h)
  · exact .fTuple h
  · exact .kTuple h hc
section
variable {P : Program} {w : World} {K : PySem.W.Frag} {mg : Str → Option Value} {base : Heap}
theorem h_is_whole (T : Txt K mg) {k : Nat} : Has P w K mg base "is_whole" ["number"] (k + 1) (sp_is_whole K) := by
  refine has_of T.d_is_whole sc_is_whole (fun vs H Q E h => ?_) (fun f cdv A outer s H vs Q E hr h => ?_)
  · obtain ⟨v, b, rfl, _⟩ := h
    rfl
  · obtain ⟨v, b, rfl, hv, q⟩ := h
    refine ⟨_, (pss_one (ps_ret (pe_and (pe_callB call_isi (by rfl) T.b_isinstance (by decide +kernel) (pa_cons (pv 0) (pa_cons (pe_bltn (v := .ty "int") (by rfl) T.b_int (by decide +kernel) rfl) pa_nil))) (pe_one (pe_not (pe_callB call_isi (by rfl) T.b_isinstance (by decide +kernel) (pa_cons (pv 0) (pa_cons (pe_bltn (v := .ty "bool") (by rfl) T.b_bool (by decide +kernel) rfl) pa_nil)))))))), ?_⟩
    rcases hv with ⟨i, rfl, rfl⟩ | ⟨p, xs, rfl, ht, rfl⟩
    · exact ⟨_, rfl, _, _, .type "int", _, true, rfl, .ty _, .base (.int i), kit_ty (by decide +kernel), true, rfl, iteT ⟨_, rfl, _, _, .type "int", _, false, rfl, .ty _, .base (.int i), kit_ty (by decide +kernel), false, rfl, q⟩⟩
    · exact ⟨_, rfl, _, _, .type "tuple", _, false, rfl, .ty _, ty_tup ht, kit_ty (by decide +kernel), false, rfl, iteF q⟩
theorem abs_val (a : Int) : (if a < 0 then -a else a) = (a.natAbs : Int) := by
  split <;> omega
theorem gcd_step {x y : Int} (hx : 0 ≤ x) (hy : 0 ≤ y) : Int.gcd y (x % y) = Int.gcd x y := by
  obtain ⟨m, rfl⟩ := Int.eq_ofNat_of_zero_le hx
  obtain ⟨n, rfl⟩ := Int.eq_ofNat_of_zero_le hy
  rw [← Int.natCast_emod]
  show Nat.gcd n (m % n) = Nat.gcd m n
  rw [Nat.gcd_comm m n, Nat.gcd_rec n m, Nat.gcd_comm]
theorem h_common (T : Txt K mg) {k : Nat} : Has P w K mg base "common" ["one", "other"] (k + 1) sp_common := by
  refine has_of T.d_common sc_common (fun vs H Q E h => ?_) (fun f cdv A outer s H vs Q E hr h => ?_)
  · obtain ⟨a, b, rfl, _⟩ := h
    rfl
  · obtain ⟨a, b, rfl, q⟩ := h
    refine ⟨_, (pss_cons (ps_par (i := 0) (j := 1) (by rfl) sc_common.nd rfl rfl (by decide) rfl rfl (pa_cons (pe_callB call_abs (by rfl) T.b_abs (by decide +kernel) (pa_cons (pv 0) pa_nil)) (pa_cons (pe_callB call_abs (by rfl) T.b_abs (by decide +kernel) (pa_cons (pv 1) pa_nil)) pa_nil)) (by rfl)) (pss_cons (ps_while PassesOwn.never (pt_cmpR op_gt (pv 1) pe_int (nomark _)) (pss_one (ps_par (i := 0) (j := 1) (by rfl) sc_common.nd rfl rfl (by decide) rfl rfl (pa_cons (pv 1) (pa_cons (pe_op op_modN (pv 0) (pv 1)) pa_nil)) (by rfl)))) (pss_one (ps_ret (pv 0))))), ?_⟩
    refine ⟨_, rfl, _, rfl, _, rfl, _, rfl, _, _, rfl, ?_⟩
    refine ⟨fun m σ H' => ∃ x y : Int, σ = [some (.int x), some (.int y)] ∧ 0 ≤ x ∧ 0 ≤ y ∧ Int.gcd x y = Int.gcd a b ∧ m = y.toNat ∧ H = H', ⟨_, _, _, rfl, ?_, ?_, ?_, rfl, rfl⟩, fun m σ H' hW => ?_⟩
    · rw [abs_val]; omega
    · rw [abs_val]; omega
    · rw [abs_val, abs_val]; simp only [Int.gcd, Int.natAbs_natCast]
    · obtain ⟨x, y, rfl, hx, hy, hg, rfl, rfl⟩ := hW
      refine ⟨_, rfl, _, _, rfl, rfl, _, rfl, ?_⟩
      by_cases hp : (0 : Int) < y
      · rw [decide_eq_true hp]
        refine iteT ⟨fun σ' H' => ∃ x' y' : Int, σ' = [some (.int x'), some (.int y')] ∧ 0 ≤ x' ∧ 0 ≤ y' ∧ Int.gcd x' y' = Int.gcd a b ∧ y' < y ∧ H = H', fun σ' H' hN => ?_, ?_⟩
        · obtain ⟨x', y', rfl, h1, h2, h3, h4, rfl⟩ := hN
          exact ⟨y'.toNat, by omega, x', y', rfl, h1, h2, h3, rfl, rfl⟩
        · refine ⟨_, rfl, _, rfl, _, rfl, x, y, rfl, rfl, by show y ≠ 0; omega, _, _, rfl, ?_⟩
          have e : Int.fmod x y = x % y := Int.fmod_eq_emod_of_nonneg x hy
          refine ⟨y, Int.fmod x y, rfl, hy, ?_, ?_, ?_, rfl⟩
          · rw [e]; exact Int.emod_nonneg x (by omega)
          · rw [e, ← hg, gcd_step hx hy]
          · rw [e]; exact Int.emod_lt_of_pos x hp
      · rw [decide_eq_false hp]
        have e : y = 0 := by omega
        subst e
        rw [Int.gcd_zero_right] at hg
        refine iteF ⟨_, rfl, ?_⟩
        have e2 : x = ((Int.gcd a b : Nat) : Int) := by omega
        rw [e2]
        exact q
theorem num_low {a b : Int} (hb : 0 < b) : a / ((Int.gcd a b : Nat) : Int) = (Rat.divInt a b).num := by
  rw [Rat.num_divInt, Int.sign_eq_one_of_pos hb, Int.one_mul, Int.gcd_comm]
theorem den_low {a b : Int} (hb : 0 < b) : b / ((Int.gcd a b : Nat) : Int) = ((Rat.divInt a b).den : Int) := by
  rw [Rat.den_divInt, if_neg (by omega), Int.gcd_comm]
  have e : ((b.natAbs : Nat) : Int) = b := by omega
  rw [Int.natCast_ediv, e]
theorem gcd_pos {a b : Int} (hb : 0 < b) : (0 : Int) < ((Int.gcd a b : Nat) : Int) := by
  have := Int.gcd_pos_of_ne_zero_right a (show b ≠ 0 by omega)
  omega
theorem h_lowest (T : Txt K mg) (B : BaseOk P base) {k : Nat} (hk : 32 ≤ k) (G_common : Has P w K mg base "common" ["one", "other"] k sp_common) : Has P w K mg base "lowest" ["top", "bottom"] (k + 1) sp_lowest := by
  refine has_of T.d_lowest sc_lowest (fun vs H Q E h => ?_) (fun f cdv A outer s H vs Q E hr h => ?_)
  · obtain ⟨a, b, rfl, _⟩ := h
    rfl
  · obtain ⟨a, b, rfl, hb, q⟩ := h
    have SX : Seer (cxOf CX0 P w K mg base ["top", "bottom", "by"] "lowest" (defScope s_lowest) f cdv A outer s H E).nox := seer_cx B hr hk rfl rfl
    refine ⟨_, (pss_cons (ps_set (i := 2) sc_lowest.nd rfl (.inl rfl) (pe_callH G_common hr (by rfl) (pa_cons (pv 0) (pa_cons (pv 1) pa_nil)))) (pss_cons (ps_if (pt_cmpR op_lt (pv 1) pe_int (nomark _)) (pss_one (ps_set (i := 2) sc_lowest.nd rfl (.inl rfl) (pe_un un_neg (pv 2)))) pss_nil) (pss_one (ps_ret (pe_tup (pa_cons (pe_op (op_fdivS SX) (pv 0) (pv 2)) (pa_cons (pe_op (op_fdivS SX) (pv 1) (pv 2)) pa_nil))))))), ?_⟩
    refine ⟨_, rfl, _, rfl, a, b, rfl, ?_⟩
    refine ⟨_, rfl, _, _, rfl, rfl, _, rfl, ?_⟩
    rw [decide_eq_false (show ¬ b < 0 by omega)]
    refine iteF ?_
    have hg := gcd_pos (a := a) hb
    refine ⟨_, rfl, _, rfl, _, _, rfl, rfl, hg, _, rfl, _, rfl, _, _, rfl, rfl, hg, by show 2 ≤ sizeLine; decide, fun p hp => ?_⟩
    refine q p _ (same_new hp) ?_
    dsimp only
    rw [upd_same, num_low hb, den_low hb]
theorem h_is_ratio (T : Txt K mg) {k : Nat} (G_is_whole : Has P w K mg base "is_whole" ["number"] k (sp_is_whole K)) : Has P w K mg base "is_ratio" ["number"] (k + 1) (sp_is_ratio K) := by
  refine has_of T.d_is_ratio sc_is_ratio (fun vs H Q E h => ?_) (fun f cdv A outer s H vs Q E hr h => ?_)
  · obtain ⟨v, r, rfl, _⟩ := h
    rfl
  · obtain ⟨v, r, rfl, hn, q⟩ := h
    refine ⟨_, (pss_cons (ps_if (pt_val (pe_callH G_is_whole hr (by rfl) (pa_cons (pv 0) pa_nil))) (pss_one (ps_ret pe_bl)) pss_nil) (pss_cons (ps_if (PW.pt (pw_or (pt_not (pt_val (pe_callB call_isi (by rfl) T.b_isinstance (by decide +kernel) (pa_cons (pv 0) (pa_cons (pe_bltn (v := .ty "tuple") (by rfl) T.b_tuple (by decide +kernel) rfl) pa_nil))))) (pw_or1 (pt_cmpR op_ne (pe_callB call_len_seq (by rfl) T.b_len PySem.boot_len (pa_cons (pv 0) pa_nil)) pe_int (nomark _))))) (pss_one (ps_ret pe_bl)) pss_nil) (pss_one (ps_ret (pe_and (pe_callH G_is_whole hr (by rfl) (pa_cons (pe_ix ix_tup (pv 0) pe_int (fun _ _ => rfl)) pa_nil)) (pe_and (pe_callH G_is_whole hr (by rfl) (pa_cons (pe_ix ix_tup (pv 0) pe_int (fun _ _ => rfl)) pa_nil)) (pe_one (pe_cmpR op_gt (pe_ix ix_tup (pv 0) pe_int (fun _ _ => rfl)) pe_int (nomark _))))))))), ?_⟩
    cases hn with
    | int i =>
      refine ⟨_, rfl, _, true, rfl, .inl ⟨i, rfl, rfl⟩, true, rfl, ?_⟩
      exact iteT q
    | @pair p a b ht hb =>
      refine ⟨_, rfl, _, false, rfl, .inr ⟨p, _, rfl, ht, rfl⟩, false, rfl, ?_⟩
      refine iteF ?_
      refine ⟨_, rfl, _, _, .type "tuple", _, true, rfl, .ty _, ty_tup ht, kit_ty (by decide +kernel), true, rfl, ?_⟩
      refine iteF ⟨_, rfl, p, _, rfl, .inr ht, rfl, _, rfl, ?_⟩
      refine iteF ?_
      refine ⟨_, rfl, p, _, 0, _, rfl, rfl, ht, atI_nat (j := 0) rfl, _, true, rfl, .inl ⟨a, rfl, rfl⟩, true, rfl, ?_⟩
      refine iteT ⟨_, rfl, p, _, 1, _, rfl, rfl, ht, atI_nat (j := 1) rfl, _, true, rfl, .inl ⟨b, rfl, rfl⟩, true, rfl, ?_⟩
      refine iteT ⟨_, rfl, p, _, 1, _, rfl, rfl, ht, atI_nat (j := 1) rfl, _, _, rfl, rfl, ?_⟩
      show Q (.bl (decide (0 < b))) H
      rw [decide_eq_true hb]
      exact q
theorem h_ratio_of (T : Txt K mg) {k : Nat} (G_is_ratio : Has P w K mg base "is_ratio" ["number"] k (sp_is_ratio K)) (G_is_whole : Has P w K mg base "is_whole" ["number"] k (sp_is_whole K)) (G_lowest : Has P w K mg base "lowest" ["top", "bottom"] k sp_lowest) : Has P w K mg base "ratio_of" ["number"] (k + 1) (sp_ratio_of K) := by
  refine has_of T.d_ratio_of sc_ratio_of (fun vs H Q E h => ?_) (fun f cdv A outer s H vs Q E hr h => ?_)
  · obtain ⟨v, r, rfl, _⟩ := h
    rfl
  · obtain ⟨v, r, rfl, hn, q⟩ := h
    refine ⟨_, (pss_cons (ps_if (pt_not (pt_val (pe_callH G_is_ratio hr (by rfl) (pa_cons (pv 0) pa_nil)))) (pss_one ps_never) pss_nil) (pss_one (ps_ret (pe_ifExp (pt_val (pe_callH G_is_whole hr (by rfl) (pa_cons (pv 0) pa_nil))) (pe_tup (pa_cons (pv 0) (pa_cons pe_int pa_nil))) (pe_callH G_lowest hr (by rfl) (pa_cons (pe_ix ix_tup (pv 0) pe_int (fun _ _ => rfl)) (pa_cons (pe_ix ix_tup (pv 0) pe_int (fun _ _ => rfl)) pa_nil))))))), ?_⟩
    refine ⟨_, rfl, _, r, rfl, hn, true, rfl, ?_⟩
    refine iteF ?_
    cases hn with
    | int i =>
      refine ⟨_, rfl, _, true, rfl, .inl ⟨i, rfl, rfl⟩, true, rfl, ?_⟩
      refine iteT ⟨_, rfl, by show 2 ≤ sizeLine; decide, fun p hp => ?_⟩
      exact q _ _ (same_new hp) ⟨p, rfl, .of upd_same⟩
    | @pair p a b ht hb =>
      refine ⟨_, rfl, _, false, rfl, .inr ⟨p, _, rfl, ht, rfl⟩, false, rfl, ?_⟩
      refine iteF ?_
      refine ⟨_, rfl, p, _, 0, _, rfl, rfl, ht, atI_nat (j := 0) rfl, _, rfl, p, _, 1, _, rfl, rfl, ht, atI_nat (j := 1) rfl, a, b, rfl, hb, fun t H' sm ht' => ?_⟩
      exact q _ _ sm ⟨t, rfl, .of ht'⟩
theorem gap_low (q r : Rat) : Rat.divInt (q.num * (r.den : Int) - r.num * (q.den : Int)) ((q.den : Int) * (r.den : Int)) = q - r := by
  rw [Rat.sub_def', ← Int.natCast_mul, Rat.divInt_ofNat]
theorem den_pos' (q : Rat) : (0 : Int) < (q.den : Int) := by
  have := q.den_pos
  omega
theorem h_ratio_gap (T : Txt K mg) {k : Nat} (G_lowest : Has P w K mg base "lowest" ["top", "bottom"] k sp_lowest) (G_ratio_of : Has P w K mg base "ratio_of" ["number"] k (sp_ratio_of K)) : Has P w K mg base "ratio_gap" ["one", "other"] (k + 1) (sp_ratio_gap K) := by
  refine has_of T.d_ratio_gap sc_ratio_gap (fun vs H Q E h => ?_) (fun f cdv A outer s H vs Q E hr h => ?_)
  · obtain ⟨v, u, x, y, rfl, _⟩ := h
    rfl
  · obtain ⟨v, u, x, y, rfl, hx, hy, ⟨z1, z2, z3, z4⟩, q⟩ := h
    refine ⟨_, (pss_cons (ps_asg (pe_tup (pa_cons (pe_callH G_ratio_of hr (by rfl) (pa_cons (pv 0) pa_nil)) (pa_cons (pe_callH G_ratio_of hr (by rfl) (pa_cons (pv 1) pa_nil)) pa_nil))) (pg_tup rfl (pgs_cons (pg_tup rfl (pgs_cons (pg_name (i := 2) sc_ratio_gap.nd rfl (.inl rfl)) (pgs_cons (pg_name (i := 3) sc_ratio_gap.nd rfl (.inl rfl)) pgs_nil))) (pgs_cons (pg_tup rfl (pgs_cons (pg_name (i := 4) sc_ratio_gap.nd rfl (.inl rfl)) (pgs_cons (pg_name (i := 5) sc_ratio_gap.nd rfl (.inl rfl)) pgs_nil))) pgs_nil)))) (pss_one (ps_ret (pe_callH G_lowest hr (by rfl) (pa_cons (pe_op op_sub (pe_op op_mulX (pv 2) (pv 5)) (pe_op op_mulX (pv 4) (pv 3))) (pa_cons (pe_op op_mulX (pv 3) (pv 5)) pa_nil)))))), ?_⟩
    refine ⟨_, rfl, _, x, rfl, hx, fun v1 H1 s1 ⟨p1, e1, t1⟩ => ?_⟩
    subst e1
    refine ⟨_, rfl, _, y, rfl, hy.mono s1, fun v2 H2 s2 ⟨p2, e2, t2⟩ => ?_⟩
    subst e2
    refine ⟨by show 2 ≤ sizeLine; decide, fun p hp => ?_⟩
    have s3 := same_new (o := .tup [.ref p1, .ref p2]) hp
    have t1' := Same.t (s2.trans s3) t1
    have t2' := Same.t s3 t2
    refine ⟨p, _, rfl, .of upd_same, rfl, _, _, rfl, ?_⟩
    refine ⟨p1, _, rfl, t1', rfl, _, _, rfl, _, _, rfl, rfl, _, _, rfl, ?_⟩
    refine ⟨p2, _, rfl, t2', rfl, _, _, rfl, _, _, rfl, rfl, rfl, ?_⟩
    refine ⟨_, rfl, _, rfl, _, _, rfl, rfl, mul_sm z1 z4, _, rfl, _, rfl, _, _, rfl, rfl, mul_sm z3 z2, _, _, rfl, rfl, ?_⟩
    refine ⟨_, rfl, _, rfl, _, _, rfl, rfl, mul_sm z2 z4, _, _, rfl, Int.mul_pos (den_pos' x) (den_pos' y), fun t H' sm ht' => ?_⟩
    rw [gap_low] at ht'
    exact q _ _ ((s1.trans s2).trans (s3.trans sm)) ⟨t, rfl, .of ht'⟩
end
end Kq

set_option Elab.async false
set_option linter.all false
set_option maxRecDepth 100000
set_option maxHeartbeats 4000000
/-! comprehensions; trimmed, whole_numbers, slope_of, shared -/
namespace Kq
open PySem PySem.Spec PyProof.Rows L2
/-! ### what is kept of tuples -/
def Tupish : HO → Prop
  | .tup _ => True
  | .frz _ _ => True
  | _ => False
def Gr (H H' : Hp) : Prop := ∀ b o, Tupish o → H b = some o → H' b = some o
theorem Gr.refl (H : Hp) : Gr H H := fun _ _ _ h => h
theorem Gr.trans {H H1 H2 : Hp} (a : Gr H H1) (b : Gr H1 H2) : Gr H H2 := fun c o t h => b c o t (a c o t h)
theorem Same.gr {H H' : Hp} (e : Same H H') : Gr H H' := fun b o _ h => e b o h
theorem gr_mut {H : Hp} {p : Addr} {xs : List V} {o : HO} (h : H p = some (.lst xs)) : Gr H (upd H p o) := fun b u t e => by
  refine (upd_ne ?_).trans e
  rintro rfl
  rw [h] at e
  cases e
  exact t
theorem Gr.t {K : PySem.W.Frag} {H H' : Hp} {a : Addr} {xs : List V} (e : Gr H H') (h : SqT K H a xs) : SqT K H' a xs := by
  rcases h with (h | ⟨o, h⟩) | h
  · exact .inl (.inl (e _ _ trivial h))
  · exact .inl (.inr ⟨o, e _ _ trivial h⟩)
  · exact .inr h
theorem IsQ.gr {K : PySem.W.Frag} {H H' : Hp} {v : V} {q : Rat} (e : Gr H H') (h : IsQ K H v q) : IsQ K H' v q := by
  obtain ⟨p, r, t⟩ := h
  exact ⟨p, r, Gr.t e t⟩
theorem IsN.gr {K : PySem.W.Frag} {H H' : Hp} {v : V} {q : Rat} (e : Gr H H') (h : IsN K H v q) : IsN K H' v q := by
  cases h with
  | int i => exact .int i
  | pair h hb => exact .pair (Gr.t e h) hb
/-! ### a comprehension's reading -/
theorem lcG {J : It} {n : Nat} {H1 : Hp} {D : Addr} {g : TG} {te : TE} {vs : List Nat} {σ : L2.St} {Qd : Hp → Prop} (S : Nat → Hp → Prop) (R : Nat → V → Hp → Prop) (hz : n ≤ 100000)
    (h0 : S 0 (upd H1 D (.lst []))) (hS : ∀ i H' l l', S i H' → H' D = some (.lst l) → S i (upd H' D (.lst l')))
    (hR : ∀ i v H H', Gr H H' → R i v H → R i v H')
    (go : ∀ i H, i < n → S i H → J.go i H) (stop : ∀ H, S n H → J.stop n H)
    (hs : ∀ i x H' H'', i < n → S i H' → J.yld i H' x H'' → ∀ (Qk : VK) (Nx : Hp → Prop), (∀ v H3, S (i + 1) H3 → Gr H' H3 → H3 D = H' D → R i v H3 → Qk v H3) →
      g x (wipe σ vs) H'' fun σ2 H2 => wipe σ2 vs = wipe σ vs ∧ tYes σ2 H2 fun b H3 => if b = true then te σ2 H3 Qk else Nx H3)
    (hd : ∀ H' ws, S n H' → H' D = some (.lst ws) → ws.length = n → (∀ i v, ws[i]? = some v → R i v H') → Qd H') :
    ∃ W : Nat → Nat → Hp → Prop, (∃ m, W 0 m (upd H1 D (.lst []))) ∧ ∀ i m H, W i m H →
      (J.stop i H ∧ Qd H) ∨ (J.go i H ∧ ∃ Nx : Hp → Prop, (∀ H', Nx H' → ∃ m', m' < m ∧ W (i + 1) m' H') ∧ ∀ x H', J.yld i H x H' → g x (wipe σ vs) H' fun σ2 H2 => wipe σ2 vs = wipe σ vs ∧ tYes σ2 H2 fun b H3 =>
        if b = true then te σ2 H3 fun y H4 => ∃ acc, H4 D = some (.lst acc) ∧ acc.length < sizeLine ∧ Nx (upd H4 D (.lst (acc ++ [y]))) else Nx H3) := by
  refine ⟨fun i m H => m = n - i ∧ i ≤ n ∧ S i H ∧ ∃ ws, H D = some (.lst ws) ∧ ws.length = i ∧ ∀ j v, ws[j]? = some v → R j v H, ⟨n, by simp, Nat.zero_le _, h0, [], upd_same, rfl, fun j v e => by simp at e⟩, ?_⟩
  rintro i m H ⟨rfl, hi, hS1, ws, hw, hl, hr⟩
  by_cases hlt : i < n
  · refine .inr ⟨go i H hlt hS1, fun H' => S (i + 1) H' ∧ ∃ ws, H' D = some (.lst ws) ∧ ws.length = i + 1 ∧ ∀ j v, ws[j]? = some v → R j v H', fun H' h => ⟨n - (i + 1), by omega, rfl, hlt, h⟩, fun x H' y => ?_⟩
    refine hs i x H H' hlt hS1 y _ _ fun v H3 s3 g3 d3 r3 => ?_
    have e3 : H3 D = some (.lst ws) := d3.trans hw
    refine ⟨ws, e3, by rw [hl]; exact Nat.lt_of_lt_of_le hlt (Nat.le_trans hz (by decide)), hS _ _ _ _ s3 e3, ws ++ [v], upd_same, by simp [hl], fun j u e => ?_⟩
    have gu : Gr H3 (upd H3 D (.lst (ws ++ [v]))) := gr_mut e3
    by_cases hj : j < ws.length
    · rw [List.getElem?_append_left hj] at e
      exact hR j u _ _ (g3.trans gu) (hr j u e)
    · have e2 : j = ws.length := by
        have := (List.getElem?_eq_some_iff.mp e).1
        simp at this
        omega
      subst e2
      simp at e
      subst e
      rw [hl]
      exact hR _ _ _ _ gu r3
  · have e : i = n := by omega
    subst e
    exact .inl ⟨stop H hS1, hd H ws hS1 hw hl hr⟩
theorem yesE {σ σ2 : L2.St} {H2 : Hp} {vs : List Nat} {te : TE} {Qk : VK} {Nx : Hp → Prop} (h1 : wipe σ2 vs = wipe σ vs) (h2 : te σ2 H2 Qk) : wipe σ2 vs = wipe σ vs ∧ tYes σ2 H2 fun b H3 => if b = true then te σ2 H3 Qk else Nx H3 :=
  ⟨h1, by
    show (if true = true then te σ2 H2 Qk else Nx H2)
    rw [if_pos rfl]
    exact h2⟩
/-- over a list, nothing else changed; each turn has its value by a relation -/
theorem lcL {K : PySem.W.Frag} {a : Addr} {xs : List V} {H1 : Hp} {D : Addr} {g : TG} {te : TE} {vs : List Nat} {σ : L2.St} {Qd : Hp → Prop} (R : Nat → V → Hp → Prop) (hz : xs.length ≤ 100000)
    (hD : H1 D = none) (hx : H1 a = some (.lst xs)) (hR : ∀ i v H H', Gr H H' → R i v H → R i v H')
    (hs : ∀ i x H', xs[i]? = some x → Same H1 H' → ∀ (Qk : VK) (Nx : Hp → Prop), (∀ v H3, Same H' H3 → R i v H3 → Qk v H3) →
      g x (wipe σ vs) H' fun σ2 H2 => wipe σ2 vs = wipe σ vs ∧ tYes σ2 H2 fun b H3 => if b = true then te σ2 H3 Qk else Nx H3)
    (hd : ∀ H' ws, Same H1 H' → H' D = some (.lst ws) → ws.length = xs.length → (∀ i v, ws[i]? = some v → R i v H') → Qd H') :
    ∃ W : Nat → Nat → Hp → Prop, (∃ m, W 0 m (upd H1 D (.lst []))) ∧ ∀ i m H, W i m H →
      ((Itl K a).stop i H ∧ Qd H) ∨ ((Itl K a).go i H ∧ ∃ Nx : Hp → Prop, (∀ H', Nx H' → ∃ m', m' < m ∧ W (i + 1) m' H') ∧ ∀ x H', (Itl K a).yld i H x H' → g x (wipe σ vs) H' fun σ2 H2 => wipe σ2 vs = wipe σ vs ∧ tYes σ2 H2 fun b H3 =>
        if b = true then te σ2 H3 fun y H4 => ∃ acc, H4 D = some (.lst acc) ∧ acc.length < sizeLine ∧ Nx (upd H4 D (.lst (acc ++ [y]))) else Nx H3) := by
  have sq : ∀ H', (Same H1 H' ∧ ∃ l, H' D = some (.lst l)) → SqL K H' a xs := fun H' h => .of (h.1 _ _ hx)
  refine lcG (fun _ H' => Same H1 H' ∧ ∃ l, H' D = some (.lst l)) R hz ⟨same_new hD, _, upd_same⟩ (fun i H' l l' h _ => ⟨same_mut h.1 hD, _, upd_same⟩) hR (fun i H hi h => ⟨xs, xs[i], sq H h, by simp [hi]⟩) (fun H h => ⟨xs, sq H h, Nat.le_refl _⟩)
    (fun i x H' H'' hi h y Qk Nx k => ?_) (fun H' ws h e1 e2 e3 => hd H' ws h.1 e1 e2 e3)
  obtain ⟨rfl, y⟩ := y
  refine hs i x _ (y xs (sq _ h)) h.1 Qk Nx fun v H3 s3 r3 => ?_
  obtain ⟨l, hl⟩ := h.2
  exact k v H3 ⟨h.1.trans s3, l, s3 _ _ hl⟩ (Same.gr s3) ((s3 _ _ hl).trans hl.symm) r3
/-- ints from a relation that tells them -/
theorem ints_of {ws : List V} {ys : List Int} (hl : ws.length = ys.length) (h : ∀ (i : Nat) (v : V), ws[i]? = some v → ∃ y : Int, ys[i]? = some y ∧ v = V.int y) : ws = ys.map V.int := by
  refine List.ext_getElem? fun i => ?_
  rw [List.getElem?_map]
  cases e : ws[i]? with
  | none =>
    have h1 := List.getElem?_eq_none_iff.mp e
    rw [List.getElem?_eq_none_iff.mpr (by omega)]
    rfl
  | some v =>
    obtain ⟨y, e2, rfl⟩ := h i v e
    rw [e2]
    rfl
theorem paired_of {R : V → α → Prop} : ∀ {ws : List V} {ys : List α}, ws.length = ys.length → (∀ (i : Nat) (v : V) (y : α), ws[i]? = some v → ys[i]? = some y → R v y) → Paired R ws ys
  | [], [], _, _ => .nil
  | v :: ws, y :: ys, hl, h => .cons (h 0 v y rfl rfl) (paired_of (by simpa using hl) fun i a b e1 e2 => h (i + 1) a b (by simpa using e1) (by simpa using e2))
  | [], _ :: _, hl, _ => by simp at hl
  | _ :: _, [], hl, _ => by simp at hl
/-! ### slices -/
theorem cut_take (xs : List V) (n : Nat) : cutV xs none (some (n : Int)) = xs.take n := by
  unfold cutV
  rw [HT.sIx_none, HT.sIx_nat, List.drop_zero, Nat.sub_zero]
  by_cases h : n ≤ xs.length
  · rw [Nat.min_eq_left h]
  · rw [Nat.min_eq_right (by omega), List.take_of_length_le (Nat.le_refl _), List.take_of_length_le (by omega)]
theorem cut_drop (xs : List V) : cutV xs (some 1) none = xs.drop 1 := by
  unfold cutV
  rw [show HT.sIx xs.length 0 (some 1) = min 1 xs.length from HT.sIx_nat xs.length 0 1, HT.sIx_none]
  cases xs with
  | nil => rfl
  | cons x r =>
    rw [show min 1 (x :: r).length = 1 by simp]
    exact List.take_of_length_le (by simp)
theorem cut_init (xs : List V) : cutV xs none (some (-1)) = xs.dropLast := by
  unfold cutV
  have e : HT.sIx xs.length xs.length (some (-1)) = xs.length - 1 := by
    show (if (-1 : Int) < 0 then ((-1 : Int) + (xs.length : Int)).toNat else min (-1 : Int).toNat xs.length) = _
    rw [if_pos (by decide)]
    omega
  rw [HT.sIx_none, e, List.drop_zero, Nat.sub_zero, List.dropLast_eq_take]
/-! ### trimmed: plain -/
/-- how many are left when zeros at the end are gone -/
def manyOf (l : List Int) : Nat → Nat
  | 0 => 0
  | n + 1 => if l[n]? = some 0 then manyOf l n else n + 1
def cut (l : List Int) : List Int := l.take (manyOf l l.length)
def cont (l : List Int) : Nat := l.foldl (fun g x => Int.gcd g x) 0
def trim (l : List Int) : List Int := (cut l).map fun x => x / (cont (cut l) : Int)
theorem manyOf_le (l : List Int) : ∀ n, manyOf l n ≤ n
  | 0 => Nat.le_refl _
  | n + 1 => by
    unfold manyOf
    split
    · exact Nat.le_succ_of_le (manyOf_le l n)
    · exact Nat.le_refl _
theorem cut_len (l : List Int) : (cut l).length = manyOf l l.length := by
  unfold cut
  rw [List.length_take]
  have := manyOf_le l l.length
  omega
theorem cut_last (l : List Int) : ∀ n, n ≤ l.length → 0 < manyOf l n → ∃ x, l[manyOf l n - 1]? = some x ∧ x ≠ 0
  | 0, _, h => by simp [manyOf] at h
  | n + 1, hn, h => by
    unfold manyOf at h ⊢
    split at h
    · rename_i e
      rw [if_pos e]
      exact cut_last l n (by omega) h
    · rename_i e
      rw [if_neg e]
      refine ⟨l[n], by simp, fun z => e ?_⟩
      rw [List.getElem?_eq_getElem (show n < l.length by omega), z]
theorem gcd_fold_pos : ∀ (l : List Int) (g : Nat), (0 < g ∨ ∃ x ∈ l, x ≠ 0) → 0 < l.foldl (fun g x => Int.gcd g x) g
  | [], g, h => by
    rcases h with h | ⟨x, h, _⟩
    · exact h
    · cases h
  | a :: l, g, h => by
    refine gcd_fold_pos l _ ?_
    rcases h with h | ⟨x, h, hx⟩
    · exact .inl (Int.gcd_pos_of_ne_zero_left a (by omega))
    · rcases List.mem_cons.mp h with rfl | h
      · exact .inl (Int.gcd_pos_of_ne_zero_right g hx)
      · exact .inr ⟨x, h, hx⟩
theorem cont_pos {l : List Int} (h : cut l ≠ []) : 0 < cont (cut l) := by
  refine gcd_fold_pos _ _ (.inr ?_)
  have h0 : 0 < manyOf l l.length := by
    rw [← cut_len]
    exact List.length_pos_iff.mpr h
  obtain ⟨x, e, hx⟩ := cut_last l _ (Nat.le_refl _) h0
  refine ⟨x, ?_, hx⟩
  unfold cut
  exact List.mem_of_getElem? (i := manyOf l l.length - 1) (by rw [List.getElem?_take, if_pos (by omega)]; exact e)
def sp_trimmed : Sp := fun vs H Q _ => ∃ (v : V) (l : List Int), vs = [v] ∧ IsI H v l ∧ l.length ≤ 1000 ∧ RetP (fun v H' => IsI H' v (trim l)) H Q
section
variable {P : Program} {w : World} {K : PySem.W.Frag} {mg : Str → Option Value} {base : Heap}
theorem get_int {l : List Int} {n : Nat} {x : Int} (h : l[n]? = some x) : (l.map V.int)[n]? = some (.int x) := by
  rw [List.getElem?_map, h]
  rfl
theorem h_trimmed (T : Txt K mg) (B : BaseOk P base) {k : Nat} (hk : 32 ≤ k) (G_common : Has P w K mg base "common" ["one", "other"] k sp_common) : Has P w K mg base "trimmed" ["row"] (k + 1) sp_trimmed := by
  refine has_of T.d_trimmed sc_trimmed (fun vs H Q E h => ?_) (fun f cdv A outer s H vs Q E hr h => ?_)
  · obtain ⟨v, l, rfl, _⟩ := h
    rfl
  · obtain ⟨v, l, rfl, ⟨a, rfl, hA⟩, hlen, q⟩ := h
    have SX : Seer (cxOf CX0 P w K mg base ["row", "many", "by", "number"] "trimmed" (defScope s_trimmed) f cdv A outer s H E).nox := seer_cx B hr hk rfl rfl
    refine ⟨_, (pss_cons (ps_asg (pe_tup (pa_cons (pe_callB call_len_seq (by rfl) T.b_len PySem.boot_len (pa_cons (pv 0) pa_nil)) (pa_cons pe_int pa_nil))) (pg_tup rfl (pgs_cons (pg_name (i := 1) sc_trimmed.nd rfl (.inl rfl)) (pgs_cons (pg_name (i := 2) sc_trimmed.nd rfl (.inr rfl)) pgs_nil)))) (Evl.pss_cut (ps_while PassesOwn.never (PW.pt (pw_and (pt_cmpR op_gt (pv 1) pe_int (nomark _)) (pw_and1 (pt_cmpR op_eq (pe_ix ix_list (pv 0) (pe_op op_sub (pv 1) pe_int) (fun _ _ => rfl)) pe_int (nomark _))))) (pss_one (ps_aug (i := 1) sc_trimmed.nd rfl (.inl rfl) pe_int ip_sub))) (Evl.pss_cut (ps_for PassesOwn.never rfl (pi_list (pe_slice sl_list (pv 0) po_none (po_some (pv 1)))) (pg_name (i := 3) sc_trimmed.nd rfl (.inl rfl)) (pss_one (ps_set (i := 2) sc_trimmed.nd rfl (.inr rfl) (pe_callH G_common hr (by rfl) (pa_cons (pv 2) (pa_cons (pv 3) pa_nil)))))) (pss_one (ps_ret (pe_lc (own := [("number", 3)]) (g := (gName 3)) rfl sc_trimmed.nd (pi_list (pe_slice sl_list (pv 0) po_none (po_some (pv 1)))) (blkOk_by (own := [("number", 3)]) (N := ["row", "many", "by", "number"]) (sc := defScope s_trimmed) (by decide +kernel)) (fun _ _ _ _ _ => (pg_name (i := 3) sc_trimmed.nd rfl (.inl rfl) (hf := .inr rfl))) (fun _ _ _ _ _ => pts_nil) (fun _ _ _ _ _ => (pe_op (op_fdivS (SX.blk _ _ _ _ _)) (pv 3) (pv 2))))))))), ?_⟩
    refine ⟨_, rfl, a, _, rfl, .inl (.of hA), by show 2 ≤ sizeLine; decide, fun p hp => ?_⟩
    have s1 := same_new (o := .tup [.int ((l.map V.int).length : Int), .int 0]) hp
    refine ⟨p, _, rfl, .of upd_same, rfl, _, _, rfl, _, _, rfl, rfl, ?_⟩
    -- the while
    refine ⟨fun σ H' => σ = [some (.ref a), some (.int (manyOf l l.length : Nat)), some (.int 0), none] ∧ Same H H', ?_, fun σ H1 hM => ?_⟩
    · refine ⟨fun m σ H' => ∃ n : Nat, σ = [some (.ref a), some (.int (n : Int)), some (.int 0), none] ∧ n ≤ l.length ∧ manyOf l n = manyOf l l.length ∧ n = m ∧ Same H H', ⟨_, l.length, by rw [List.length_map]; rfl, Nat.le_refl _, rfl, rfl, s1⟩, fun m σ H' hW => ?_⟩
      obtain ⟨n, rfl, hn, hm, rfl, sm⟩ := hW
      have hA' : H' a = some (.lst (l.map V.int)) := sm _ _ hA
      refine ⟨_, rfl, _, _, rfl, rfl, _, rfl, ?_⟩
      cases n with
      | zero =>
        refine ifF (decide_eq_false (by omega)) ?_
        refine iteF ?_
        exact ⟨by rw [← hm]; rfl, sm⟩
      | succ n =>
        refine ifT (decide_eq_true (by omega)) ?_
        have hl : n < l.length := by omega
        have e1 : ((n + 1 : Nat) : Int) - 1 = (n : Int) := by omega
        refine ⟨_, rfl, _, rfl, _, _, rfl, rfl, a, _, _, .int l[n], rfl, rfl, .of hA', at_of e1 (get_int (List.getElem?_eq_getElem hl)), rfl, _, rfl, ?_⟩
        by_cases hz : l[n] = 0
        · rw [decide_eq_true (show V.int l[n] = V.int 0 by rw [hz])]
          refine iteT ⟨fun σ' H'' => σ' = [some (.ref a), some (.int (n : Int)), some (.int 0), none] ∧ Same H H'', fun σ' H'' hN => ?_, ?_⟩
          · obtain ⟨rfl, s'⟩ := hN
            refine ⟨n, Nat.lt_succ_self _, n, rfl, by omega, ?_, rfl, s'⟩
            rw [← hm]
            exact (if_pos (by rw [List.getElem?_eq_getElem hl, hz])).symm
          · refine ⟨_, rfl, _, _, rfl, rfl, ?_⟩
            exact ⟨by show [_, some (V.int (((n + 1 : Nat) : Int) - 1)), _, _] = _; rw [e1], sm⟩
        · rw [decide_eq_false (fun z => hz (V.int.inj z))]
          refine iteF ⟨?_, sm⟩
          rw [← hm]
          have : manyOf l (n + 1) = n + 1 := if_neg (by rw [List.getElem?_eq_getElem hl]; exact fun z => hz (Option.some.inj z))
          rw [this]
    · obtain ⟨rfl, sm⟩ := hM
      have hA1 : H1 a = some (.lst (l.map V.int)) := sm _ _ hA
      -- the divisor
      refine ⟨fun σ H' => (∃ y, σ = [some (.ref a), some (.int (manyOf l l.length : Nat)), some (.int (cont (cut l) : Nat)), y]) ∧ Same H H', ?_, fun σ H2 hM => ?_⟩
      · refine ⟨_, rfl, _, rfl, _, rfl, a, _, rfl, .of hA1, fun p hp => ?_⟩
        rw [cut_take, ← List.map_take]
        refine ⟨p, rfl, ⟨_, .of upd_same⟩, for_list (xs := (cut l).map V.int) (fun i σ H' => (∃ y, σ = [some (.ref a), some (.int (manyOf l l.length : Nat)), some (.int (((cut l).take i).foldl (fun g x => Int.gcd g x) 0 : Nat)), y]) ∧ Same (upd H1 p (.lst ((cut l).map V.int))) H')
          ⟨⟨_, rfl⟩, Same.refl _⟩ (fun i σ H' _ h => .of (h.2 _ _ upd_same)) (fun i x σ H' hx h => ?_) (fun σ H' h => ?_)⟩
        · obtain ⟨⟨y, rfl⟩, s2⟩ := h
          rw [List.getElem?_map] at hx
          obtain ⟨z, ez, rfl⟩ := Option.map_eq_some_iff.mp hx
          refine ⟨_, rfl, _, rfl, _, _, rfl, ?_⟩
          refine ⟨⟨some (.int z), ?_⟩, s2⟩
          rw [List.take_add_one, ez, List.foldl_append]
          rfl
        · obtain ⟨⟨y, rfl⟩, s2⟩ := h
          rw [List.length_map, List.take_length]
          exact ⟨⟨y, rfl⟩, sm.trans ((same_new hp).trans s2)⟩
      · obtain ⟨⟨y, rfl⟩, sm2⟩ := hM
        have hA2 : H2 a = some (.lst (l.map V.int)) := sm2 _ _ hA
        refine ⟨_, rfl, _, rfl, _, rfl, a, _, rfl, .of hA2, fun p hp => ?_⟩
        rw [cut_take, ← List.map_take]
        have s3 := same_new (o := .lst ((cut l).map V.int)) hp
        refine ⟨p, rfl, ⟨_, .of upd_same⟩, fun D hD => lcL (xs := (cut l).map V.int) (fun i v _ => ∃ x : Int, (trim l)[i]? = some x ∧ v = .int x) ?_ hD upd_same (fun _ _ _ _ _ h => h) (fun i x H' hx s4 Qk Nx k => ?_) (fun H' ws s4 hW hl hv => ?_)⟩
        · rw [List.length_map, cut_len]
          have := manyOf_le l l.length
          omega
        · rw [List.getElem?_map] at hx
          obtain ⟨z, ez, rfl⟩ := Option.map_eq_some_iff.mp hx
          refine yesE rfl ?_
          have hpos : 0 < cont (cut l) := cont_pos (fun e => by rw [e] at ez; simp at ez)
          refine ⟨_, rfl, _, rfl, _, _, rfl, rfl, by show (0 : Int) < _; omega, ?_⟩
          refine k _ _ (Same.refl _) ⟨_, ?_, rfl⟩
          unfold trim
          rw [List.getElem?_map, ez]
          rfl
        · refine q _ _ (sm2.trans (s3.trans s4)) ⟨D, rfl, ?_⟩
          rw [hW, ints_of (ys := trim l) (by rw [hl]; unfold trim; rw [List.length_map, List.length_map]) hv]
end
end Kq

set_option Elab.async false
set_option linter.all false
set_option maxRecDepth 100000
set_option maxHeartbeats 4000000
/-! whole_numbers, slope_of -/
namespace Kq
open PySem PySem.Spec PyProof.Rows L2
/-! ### a for's reading -/
theorem forG {J : It} {n : Nat} {g : TG} {tb : TS} {D : Ends} {σ : L2.St} {H : Hp} (Pv : Nat → L2.St → Hp → Prop) (h0 : Pv 0 σ H) (go : ∀ i σ H, i < n → Pv i σ H → J.go i H) (stop : ∀ σ H, Pv n σ H → J.stop n H)
    (hs : ∀ i x σ H H', i < n → Pv i σ H → J.yld i H x H' → g x σ H' fun σ2 H2 => tb { D with nx := Pv (i + 1), ct := Pv (i + 1), bk := D.nx } σ2 H2) (hd : ∀ σ H, Pv n σ H → D.nx σ H) :
    ∃ W : Nat → Nat → L2.St → Hp → Prop, (∃ m, W 0 m σ H) ∧ ∀ i m σ H, W i m σ H →
      (J.stop i H ∧ D.nx σ H) ∨ (J.go i H ∧ ∃ N : L2.St → Hp → Prop, (∀ σ' H', N σ' H' → ∃ m', m' < m ∧ W (i + 1) m' σ' H') ∧ ∀ x H', J.yld i H x H' → g x σ H' fun σ2 H2 => tb { D with nx := N, ct := N, bk := D.nx } σ2 H2) := by
  refine ⟨fun i m σ H => m = n - i ∧ i ≤ n ∧ Pv i σ H, ⟨n, rfl, Nat.zero_le _, h0⟩, ?_⟩
  rintro i m σ H ⟨rfl, hi, p⟩
  by_cases hlt : i < n
  · exact .inr ⟨go i σ H hlt p, Pv (i + 1), fun σ' H' p' => ⟨n - (i + 1), by omega, rfl, hlt, p'⟩, fun x H' y => hs i x σ H H' hlt p y⟩
  · have e : i = n := by omega
    subst e
    exact .inl ⟨stop σ H p, hd σ H p⟩
/-- a comprehension over enumerate(list) -/
theorem lcE {K : PySem.W.Frag} {a : Addr} {xs : List V} {H1 : Hp} {D : Addr} {g : TG} {te : TE} {vs : List Nat} {σ : L2.St} {Qd : Hp → Prop} (R : Nat → V → Hp → Prop) (hz : xs.length ≤ 100000)
    (hD : H1 D = none) (hx : H1 a = some (.lst xs)) (hR : ∀ i v H H', Gr H H' → R i v H → R i v H')
    (hs : ∀ (i : Nat) x T H', xs[i]? = some x → Same H1 H' → H' T = some (.tup [.int (i : Nat), x]) → ∀ (Qk : VK) (Nx : Hp → Prop), (∀ v H3, Same H' H3 → R i v H3 → Qk v H3) →
      g (.ref T) (wipe σ vs) H' fun σ2 H2 => wipe σ2 vs = wipe σ vs ∧ tYes σ2 H2 fun b H3 => if b = true then te σ2 H3 Qk else Nx H3)
    (hd : ∀ H' ws, Same H1 H' → H' D = some (.lst ws) → ws.length = xs.length → (∀ i v, ws[i]? = some v → R i v H') → Qd H') :
    ∃ W : Nat → Nat → Hp → Prop, (∃ m, W 0 m (upd H1 D (.lst []))) ∧ ∀ i m H, W i m H →
      ((Ite K a).stop i H ∧ Qd H) ∨ ((Ite K a).go i H ∧ ∃ Nx : Hp → Prop, (∀ H', Nx H' → ∃ m', m' < m ∧ W (i + 1) m' H') ∧ ∀ x H', (Ite K a).yld i H x H' → g x (wipe σ vs) H' fun σ2 H2 => wipe σ2 vs = wipe σ vs ∧ tYes σ2 H2 fun b H3 =>
        if b = true then te σ2 H3 fun y H4 => ∃ acc, H4 D = some (.lst acc) ∧ acc.length < sizeLine ∧ Nx (upd H4 D (.lst (acc ++ [y]))) else Nx H3) := by
  have sq : ∀ H', (Same H1 H' ∧ ∃ l, H' D = some (.lst l)) → SqL K H' a xs := fun H' h => .of (h.1 _ _ hx)
  refine lcG (fun _ H' => Same H1 H' ∧ ∃ l, H' D = some (.lst l)) R hz ⟨same_new hD, _, upd_same⟩ (fun i H' l l' h _ => ⟨same_mut h.1 hD, _, upd_same⟩) hR (fun i H hi h => ⟨xs, xs[i], sq H h, by simp [hi]⟩) (fun H h => ⟨xs, sq H h, Nat.le_refl _⟩)
    (fun i x H' H'' hi h y Qk Nx k => ?_) (fun H' ws h e1 e2 e3 => hd H' ws h.1 e1 e2 e3)
  obtain ⟨T, z, rfl, nT, rfl, y⟩ := y
  have sT := same_new (o := .tup [.int (i : Nat), z]) nT
  refine hs i z T _ (y xs (sq _ h)) (h.1.trans sT) upd_same Qk Nx fun v H3 s3 r3 => ?_
  obtain ⟨l, hl⟩ := h.2
  exact k v H3 ⟨h.1.trans (sT.trans s3), l, s3 _ _ (sT _ _ hl)⟩ (Same.gr (sT.trans s3)) ((s3 _ _ (sT _ _ hl)).trans hl.symm) r3
/-- a comprehension over zip(list, list) -/
theorem lcZ {K : PySem.W.Frag} {a b : Addr} {xs ys : List V} {n : Nat} {H1 : Hp} {D : Addr} {g : TG} {te : TE} {vs : List Nat} {σ : L2.St} {Qd : Hp → Prop} (R : Nat → V → Hp → Prop) (hz : n ≤ 100000) (hn : n = min xs.length ys.length)
    (hD : H1 D = none) (hx : H1 a = some (.lst xs)) (hy : H1 b = some (.lst ys)) (hR : ∀ i v H H', Gr H H' → R i v H → R i v H')
    (hs : ∀ i x y T H', xs[i]? = some x → ys[i]? = some y → Same H1 H' → H' T = some (.tup [x, y]) → ∀ (Qk : VK) (Nx : Hp → Prop), (∀ v H3, Same H' H3 → R i v H3 → Qk v H3) →
      g (.ref T) (wipe σ vs) H' fun σ2 H2 => wipe σ2 vs = wipe σ vs ∧ tYes σ2 H2 fun b H3 => if b = true then te σ2 H3 Qk else Nx H3)
    (hd : ∀ H' ws, Same H1 H' → H' D = some (.lst ws) → ws.length = n → (∀ i v, ws[i]? = some v → R i v H') → Qd H') :
    ∃ W : Nat → Nat → Hp → Prop, (∃ m, W 0 m (upd H1 D (.lst []))) ∧ ∀ i m H, W i m H →
      ((Itz K a b).stop i H ∧ Qd H) ∨ ((Itz K a b).go i H ∧ ∃ Nx : Hp → Prop, (∀ H', Nx H' → ∃ m', m' < m ∧ W (i + 1) m' H') ∧ ∀ x H', (Itz K a b).yld i H x H' → g x (wipe σ vs) H' fun σ2 H2 => wipe σ2 vs = wipe σ vs ∧ tYes σ2 H2 fun b H3 =>
        if b = true then te σ2 H3 fun y H4 => ∃ acc, H4 D = some (.lst acc) ∧ acc.length < sizeLine ∧ Nx (upd H4 D (.lst (acc ++ [y]))) else Nx H3) := by
  have sq : ∀ H', (Same H1 H' ∧ ∃ l, H' D = some (.lst l)) → SqL K H' a xs ∧ SqL K H' b ys := fun H' h => ⟨.of (h.1 _ _ hx), .of (h.1 _ _ hy)⟩
  refine lcG (n := n) (fun _ H' => Same H1 H' ∧ ∃ l, H' D = some (.lst l)) R hz ⟨same_new hD, _, upd_same⟩ (fun i H' l l' h _ => ⟨same_mut h.1 hD, _, upd_same⟩) hR
    (fun i H hi h => ⟨xs, ys, xs[i]'(by omega), ys[i]'(by omega), (sq H h).1, (sq H h).2, by simp, by simp⟩) (fun H h => ⟨xs, ys, (sq H h).1, (sq H h).2, by omega⟩)
    (fun i x H' H'' hi h y Qk Nx k => ?_) (fun H' ws h e1 e2 e3 => hd H' ws h.1 e1 e2 e3)
  obtain ⟨T, z1, z2, rfl, nT, rfl, y1, y2⟩ := y
  have sT := same_new (o := .tup [z1, z2]) nT
  refine hs i z1 z2 T _ (y1 xs (sq _ h).1) (y2 ys (sq _ h).2) (h.1.trans sT) upd_same Qk Nx fun v H3 s3 r3 => ?_
  obtain ⟨l, hl⟩ := h.2
  exact k v H3 ⟨h.1.trans (sT.trans s3), l, s3 _ _ (sT _ _ hl)⟩ (Same.gr (sT.trans s3)) ((s3 _ _ (sT _ _ hl)).trans hl.symm) r3
/-! ### whole_numbers, slope_of: plain -/
def stp (s : Int) (q : Rat) : Int := s / ((Int.gcd s (q.den : Int) : Nat) : Int) * (q.den : Int)
def scaleOf (qs : List Rat) : Int := qs.foldl stp 1
def wholes (qs : List Rat) : List Int := qs.map fun q => q.num * (scaleOf qs / (q.den : Int))
def derF : Nat → List Int → List Int
  | _, [] => []
  | i, x :: l => (i : Int) * x :: derF (i + 1) l
def slope (l : List Int) : List Int := trim ((derF 0 l).drop 1)
theorem derF_len : ∀ (k : Nat) (l : List Int), (derF k l).length = l.length
  | _, [] => rfl
  | k, x :: l => by
    show (derF (k + 1) l).length + 1 = l.length + 1
    rw [derF_len]
theorem derF_get : ∀ (k : Nat) (l : List Int) (i : Nat) (x : Int), l[i]? = some x → (derF k l)[i]? = some (((k + i : Nat) : Int) * x)
  | _, [], _, _, h => by simp at h
  | k, y :: l, 0, x, h => by
    have e : y = x := Option.some.inj h
    subst e
    rfl
  | k, y :: l, i + 1, x, h => by
    have e := derF_get (k + 1) l i x h
    have e2 : k + (i + 1) = k + 1 + i := by omega
    rw [e2]
    exact e
theorem Sm.le {x y : Int} (h : Sm y) (l : x.natAbs ≤ y.natAbs) : Sm x := by
  obtain ⟨n, hn, h⟩ := h
  exact ⟨n, hn, Nat.lt_of_le_of_lt l h⟩
theorem Sm.div {x : Int} (y : Nat) (h : Sm x) : Sm (x / (y : Int)) := h.le (Int.natAbs_ediv_le_natAbs _ _)
theorem sm_small {x : Int} (h : x.natAbs ≤ 1000000) : Sm x := ⟨20, by decide, Nat.lt_of_le_of_lt h (by decide)⟩
def sp_whole_numbers (K : PySem.W.Frag) : Sp := fun vs H Q _ => ∃ (v : V) (qs : List Rat), vs = [v] ∧ IsL (IsQ K H) H v qs ∧ qs.length ≤ 1000 ∧ (∀ q ∈ qs, Sm q.num ∧ Sm (q.den : Int)) ∧ (∀ i, 0 < (qs.take i).foldl stp 1 ∧ Sm ((qs.take i).foldl stp 1)) ∧ RetP (fun v H' => IsI H' v (wholes qs)) H Q
def sp_slope_of : Sp := fun vs H Q _ => ∃ (v : V) (l : List Int), vs = [v] ∧ IsI H v l ∧ l.length ≤ 1000 ∧ (∀ x ∈ l, Sm x) ∧ RetP (fun v H' => IsI H' v (slope l)) H Q
section
variable {P : Program} {w : World} {K : PySem.W.Frag} {mg : Str → Option Value} {base : Heap}
theorem h_slope_of (T : Txt K mg) {k : Nat} (G_trimmed : Has P w K mg base "trimmed" ["row"] k sp_trimmed) : Has P w K mg base "slope_of" ["row"] (k + 1) sp_slope_of := by
  refine has_of T.d_slope_of sc_slope_of (fun vs H Q E h => ?_) (fun f cdv A outer s H vs Q E hr h => ?_)
  · obtain ⟨v, l, rfl, _⟩ := h
    rfl
  · obtain ⟨v, l, rfl, ⟨a, rfl, hA⟩, hlen, hsm, q⟩ := h
    refine ⟨_, (pss_one (ps_ret (pe_callH G_trimmed hr (by rfl) (pa_cons (pe_slice sl_list (pe_lc (own := [("power", 1), ("number", 2)]) (g := (gTup K 2 (gCons (gName 1) (gCons (gName 2) gNil)))) rfl sc_slope_of.nd (pi_enum (by rfl) T.b_enumerate (pa_cons (pv 0) pa_nil)) (blkOk_by (own := [("power", 1), ("number", 2)]) (N := ["row", "power", "number"]) (sc := defScope s_slope_of) (by decide +kernel)) (fun _ _ _ _ _ => (pg_tup rfl (pgs_cons (pg_name (i := 1) sc_slope_of.nd rfl (.inl rfl) (hf := .inr rfl)) (pgs_cons (pg_name (i := 2) sc_slope_of.nd rfl (.inl rfl) (hf := .inr rfl)) pgs_nil)))) (fun _ _ _ _ _ => pts_nil) (fun _ _ _ _ _ => (pe_op op_mulX (pv 1) (pv 2)))) (po_some pe_int) po_none) pa_nil)))), ?_⟩
    refine ⟨_, rfl, a, _, rfl, .of hA, fun D hD => lcE (xs := l.map V.int) (fun i v _ => ∃ x : Int, (derF 0 l)[i]? = some x ∧ v = .int x) (by rw [List.length_map]; omega) hD hA (fun _ _ _ _ _ h => h) (fun i x T H' hx s4 hT Qk Nx k => ?_) (fun H' ws s4 hW hl hv => ?_)⟩
    · rw [List.getElem?_map] at hx
      obtain ⟨z, ez, rfl⟩ := Option.map_eq_some_iff.mp hx
      refine ⟨T, _, rfl, .of hT, rfl, _, _, rfl, _, _, rfl, rfl, ?_⟩
      refine yesE rfl ?_
      have hi := (List.getElem?_eq_some_iff.mp ez).1
      refine ⟨_, rfl, _, rfl, _, _, rfl, rfl, mul_sm (sm_small (by omega)) (hsm z (List.mem_of_getElem? ez)), ?_⟩
      refine k _ _ (Same.refl _) ⟨_, derF_get 0 l i z ez, ?_⟩
      rw [Nat.zero_add]
    · have e := ints_of (ys := derF 0 l) (by rw [hl, derF_len, List.length_map]) hv
      subst e
      refine ⟨_, rfl, D, _, rfl, .of hW, fun p hp => ?_⟩
      rw [cut_drop, ← List.map_drop]
      refine ⟨_, _, rfl, ⟨p, rfl, upd_same⟩, by rw [List.length_drop, derF_len]; omega, fun v H2 s5 h5 => ?_⟩
      exact q v H2 (s4.trans ((same_new hp).trans s5)) h5
theorem h_whole_numbers (T : Txt K mg) (B : BaseOk P base) {k : Nat} (hk : 32 ≤ k) (G_common : Has P w K mg base "common" ["one", "other"] k sp_common) : Has P w K mg base "whole_numbers" ["row"] (k + 1) (sp_whole_numbers K) := by
  refine has_of T.d_whole_numbers sc_whole_numbers (fun vs H Q E h => ?_) (fun f cdv A outer s H vs Q E hr h => ?_)
  · obtain ⟨v, l, rfl, _⟩ := h
    rfl
  · obtain ⟨v, qs, rfl, ⟨a, vs, rfl, hA, hP⟩, hlen, hsm, hsc, q⟩ := h
    have SX : Seer (cxOf CX0 P w K mg base ["row", "scale", "top", "bottom"] "whole_numbers" (defScope s_whole_numbers) f cdv A outer s H E).nox := seer_cx B hr hk rfl rfl
    have hvl : vs.length = qs.length := hP.length
    refine ⟨_, (pss_cons (ps_set (i := 1) sc_whole_numbers.nd rfl (.inr rfl) pe_int) (Evl.pss_cut (ps_for PassesOwn.never rfl (pi_list (pv 0)) (pg_tup rfl (pgs_cons (pg_name (i := 2) sc_whole_numbers.nd rfl (.inl rfl)) (pgs_cons (pg_name (i := 3) sc_whole_numbers.nd rfl (.inl rfl)) pgs_nil))) (pss_one (ps_set (i := 1) sc_whole_numbers.nd rfl (.inr rfl) (pe_op op_mulX (pe_op (op_fdivS SX) (pv 1) (pe_callH G_common hr (by rfl) (pa_cons (pv 1) (pa_cons (pv 3) pa_nil)))) (pv 3))))) (pss_one (ps_ret (pe_lc (own := [("top", 2), ("bottom", 3)]) (g := (gTup K 2 (gCons (gName 2) (gCons (gName 3) gNil)))) rfl sc_whole_numbers.nd (pi_list (pv 0)) (blkOk_by (own := [("top", 2), ("bottom", 3)]) (N := ["row", "scale", "top", "bottom"]) (sc := defScope s_whole_numbers) (by decide +kernel)) (fun _ _ _ _ _ => (pg_tup rfl (pgs_cons (pg_name (i := 2) sc_whole_numbers.nd rfl (.inl rfl) (hf := .inr rfl)) (pgs_cons (pg_name (i := 3) sc_whole_numbers.nd rfl (.inl rfl) (hf := .inr rfl)) pgs_nil)))) (fun _ _ _ _ _ => pts_nil) (fun _ _ _ _ _ => (pe_op op_mulX (pv 2) (pe_op (op_fdivS (SX.blk _ _ _ _ _)) (pv 1) (pv 3))))))))), ?_⟩
    -- the scale
    refine ⟨fun σ H' => (∃ y z, σ = [some (.ref a), some (.int (scaleOf qs)), y, z]) ∧ Same H H', ?_, fun σ H2 hM => ?_⟩
    · refine ⟨_, rfl, a, rfl, ⟨_, .of hA⟩, for_list (xs := vs) (fun i σ H' => (∃ y z, σ = [some (.ref a), some (.int ((qs.take i).foldl stp 1)), y, z]) ∧ Same H H')
          ⟨⟨none, none, rfl⟩, Same.refl _⟩ (fun i σ H' _ h => .of (h.2 _ _ hA)) (fun i x σ H' hx h => ?_) (fun σ H' h => ?_)⟩
      · obtain ⟨⟨y, z, rfl⟩, s2⟩ := h
        obtain ⟨r, er, p, rfl, ht⟩ := paired_get hP hx
        have ht' := Same.t s2 ht
        have hi := (List.getElem?_eq_some_iff.mp er).1
        obtain ⟨hs0, hs1⟩ := hsc i
        have hrm := List.mem_of_getElem? er
        have hg := gcd_pos (a := (qs.take i).foldl stp 1) (b := (r.den : Int)) (den_pos' r)
        refine ⟨p, _, rfl, ht', rfl, _, _, rfl, _, _, rfl, rfl, ?_⟩
        refine ⟨_, rfl, _, rfl, _, rfl, _, _, rfl, _, _, rfl, rfl, hg, _, rfl, _, _, rfl, rfl, mul_sm (hs1.div _) (hsm r hrm).2, ?_⟩
        refine ⟨⟨some (.int r.num), some (.int (r.den : Int)), ?_⟩, s2⟩
        rw [List.take_add_one, er, List.foldl_append]
        rfl
      · rw [hvl, List.take_length] at h
        exact h
    · obtain ⟨⟨y, z, rfl⟩, s1⟩ := hM
      have hA2 := s1 _ _ hA
      obtain ⟨hs0, hs1⟩ := hsc qs.length
      rw [List.take_length] at hs0 hs1
      refine ⟨_, rfl, a, rfl, ⟨_, .of hA2⟩, fun D hD => lcL (xs := vs) (fun i v _ => ∃ x : Int, (wholes qs)[i]? = some x ∧ v = .int x) (by omega) hD hA2 (fun _ _ _ _ _ h => h) (fun i x H' hx s4 Qk Nx k => ?_) (fun H' ws s4 hW hl hv => ?_)⟩
      · obtain ⟨r, er, p, rfl, ht⟩ := paired_get hP hx
        have ht' := Same.t (s1.trans s4) ht
        have hrm := List.mem_of_getElem? er
        refine ⟨p, _, rfl, ht', rfl, _, _, rfl, _, _, rfl, rfl, ?_⟩
        refine yesE rfl ?_
        refine ⟨_, rfl, _, rfl, _, rfl, _, _, rfl, rfl, den_pos' r, _, _, rfl, rfl, mul_sm (hsm r hrm).1 (Sm.div (x := scaleOf qs) _ hs1), ?_⟩
        refine k _ _ (Same.refl _) ⟨_, ?_, rfl⟩
        unfold wholes
        rw [List.getElem?_map, er]
        rfl
      · refine q _ _ (s1.trans s4) ⟨D, rfl, ?_⟩
        rw [hW, ints_of (ys := wholes qs) (by rw [hl]; unfold wholes; rw [List.length_map, hvl]) hv]
end
end Kq

set_option Elab.async false
set_option linter.all false
set_option maxRecDepth 100000
set_option maxHeartbeats 4000000
/-! shared -/
namespace Kq
open PySem PySem.Spec PyProof.Rows L2
/-! ### plain -/
def lastI (l : List Int) : Int := l.getD (l.length - 1) 0
def sgnI (x : Int) : Int := if 0 < x then 1 else -1
/-- what is left of a row from a place on less by times another one -/
def subAt : List Int → Nat → Int → List Int → List Int
  | l, _, _, [] => l
  | l, at', by', x :: m => subAt (l.set at' (l.getD at' 0 - by' * x)) (at' + 1) by' m
def byOf (m r : List Int) : Int := sgnI (lastI m) * lastI r
def sizeOfI (m : List Int) : Int := ((lastI m).natAbs : Int)
def nextR (m r : List Int) : List Int := cut ((subAt (r.map fun x => x * sizeOfI m) (r.length - m.length) (byOf m r) m).dropLast)
def nextQ (m r q : List Int) : List Int :=
  let q' := q.map fun x => x * sizeOfI m
  q'.set (r.length - m.length) (q'.getD (r.length - m.length) 0 + byOf m r)
def shGo (m : List Int) : Nat → List Int → List Int → List Int × List Int
  | 0, r, q => (q, r)
  | n + 1, r, q => if m.length ≤ r.length then shGo m n (nextR m r) (nextQ m r q) else (q, r)
def sh (l m : List Int) : List Int × List Int :=
  let p := shGo m (l.length + 1) l (List.replicate (max 1 (l.length + 1 - m.length)) 0)
  (trim p.1, trim p.2)
theorem subAt_len : ∀ (m l : List Int) (n : Nat) (b : Int), (subAt l n b m).length = l.length
  | [], _, _, _ => rfl
  | x :: m, l, n, b => by
    show (subAt _ _ _ m).length = _
    rw [subAt_len m, List.length_set]
theorem nextR_len (m r : List Int) : (nextR m r).length ≤ r.length - 1 := by
  unfold nextR
  rw [cut_len]
  refine Nat.le_trans (manyOf_le _ _) ?_
  rw [List.length_dropLast, subAt_len, List.length_map]
  exact Nat.le_refl _
theorem nextQ_len (m r q : List Int) : (nextQ m r q).length = q.length := by
  unfold nextQ
  rw [List.length_set, List.length_map]
theorem subAt_snoc : ∀ (m l : List Int) (n : Nat) (b x : Int), subAt l n b (m ++ [x]) = (subAt l n b m).set (n + m.length) ((subAt l n b m).getD (n + m.length) 0 - b * x)
  | [], l, n, b, x => rfl
  | y :: m, l, n, b, x => by
    show subAt _ (n + 1) b (m ++ [x]) = _
    rw [subAt_snoc m]
    have e : n + 1 + m.length = n + (y :: m).length := by rw [List.length_cons]; omega
    rw [e]
    rfl
/-- enough turns are enough -/
theorem shGo_more {m : List Int} (hm : m ≠ []) : ∀ (n k : Nat) (r q : List Int), r.length < n → shGo m n r q = shGo m (n + k) r q
  | 0, _, _, _, h => by omega
  | n + 1, k, r, q, h => by
    rw [show n + 1 + k = (n + k) + 1 by omega]
    show (if _ then _ else _) = (if _ then _ else _)
    by_cases h1 : m.length ≤ r.length
    · rw [if_pos h1, if_pos h1]
      refine shGo_more hm n k _ _ ?_
      have h2 := nextR_len m r
      have h3 := List.length_pos_iff.mpr hm
      omega
    · rw [if_neg h1, if_neg h1]
/-! ### how large -/
def Bd (l : List Int) (n : Nat) : Prop := ∀ x ∈ l, x.natAbs < 2 ^ n
theorem Bd.mono {l : List Int} {n k : Nat} (h : Bd l n) (hk : n ≤ k) : Bd l k := fun x hx => Nat.lt_of_lt_of_le (h x hx) (Nat.pow_le_pow_right (by decide) hk)
theorem lt_pow_add {x y : Int} {a b : Nat} (hx : x.natAbs < 2 ^ a) (hy : y.natAbs < 2 ^ b) : (x * y).natAbs < 2 ^ (a + b) := wide_lt hx hy
theorem sub_bd {x y : Int} {a : Nat} (hx : x.natAbs < 2 ^ a) (hy : y.natAbs < 2 ^ a) : (x - y).natAbs < 2 ^ (a + 1) := by
  have e : (2 : Nat) ^ (a + 1) = 2 ^ a * 2 := Nat.pow_succ 2 a
  omega
theorem add_bd {x y : Int} {a : Nat} (hx : x.natAbs < 2 ^ a) (hy : y.natAbs < 2 ^ a) : (x + y).natAbs < 2 ^ (a + 1) := by
  have e : (2 : Nat) ^ (a + 1) = 2 ^ a * 2 := Nat.pow_succ 2 a
  omega
theorem lastI_bd {l : List Int} {n : Nat} (h : Bd l n) : (lastI l).natAbs < 2 ^ n := by
  unfold lastI
  rw [List.getD_eq_getElem?_getD]
  cases e : l[l.length - 1]? with
  | none => exact Nat.pow_pos (by decide)
  | some x => exact h x (List.mem_of_getElem? e)
theorem getD_bd {l : List Int} {n i : Nat} (h : Bd l n) : (l.getD i 0).natAbs < 2 ^ n := by
  rw [List.getD_eq_getElem?_getD]
  cases e : l[i]? with
  | none => exact Nat.pow_pos (by decide)
  | some x => exact h x (List.mem_of_getElem? e)
theorem byOf_bd {m r : List Int} {n : Nat} (h : Bd r n) : (byOf m r).natAbs < 2 ^ n := by
  have e := lastI_bd h
  unfold byOf sgnI
  split
  · rw [Int.one_mul]; exact e
  · rw [Int.neg_mul, Int.one_mul, Int.natAbs_neg]; exact e
theorem size_bd {m : List Int} {n : Nat} (h : Bd m n) : (sizeOfI m).natAbs < 2 ^ n := by
  unfold sizeOfI
  rw [Int.natAbs_natCast]
  exact lastI_bd h
theorem map_bd {l m : List Int} {a b : Nat} (h : Bd l a) (hm : Bd m b) : Bd (l.map fun x => x * sizeOfI m) (a + b) := fun x hx => by
  obtain ⟨y, hy, rfl⟩ := List.mem_map.mp hx
  exact lt_pow_add (h y hy) (size_bd hm)
theorem set_bd {l : List Int} {n i : Nat} {x : Int} (h : Bd l n) (hx : x.natAbs < 2 ^ n) : Bd (l.set i x) n := fun y hy => by
  rcases List.mem_or_eq_of_mem_set hy with h1 | rfl
  · exact h y h1
  · exact hx
/-- every entry is touched at most once -/
theorem subAt_bd {c : Int} {a b : Nat} (hc : c.natAbs < 2 ^ a) : ∀ (m l : List Int) (n : Nat), Bd m b → (∀ i x, l[i]? = some x → x.natAbs < 2 ^ (a + b + 1) ∧ (n ≤ i → x.natAbs < 2 ^ (a + b))) → Bd (subAt l n c m) (a + b + 1)
  | [], l, n, _, h => fun x hx => by
    obtain ⟨i, hi⟩ := List.mem_iff_getElem?.mp hx
    exact (h i x hi).1
  | y :: m, l, n, hm, h => by
    refine subAt_bd hc m _ (n + 1) (fun x hx => hm x (List.mem_cons_of_mem _ hx)) fun i x hi => ?_
    by_cases hin : n = i
    · subst hin
      rw [List.getElem?_set] at hi
      simp only [if_true] at hi
      split at hi
      · cases hi
        refine ⟨?_, fun z => absurd z (by omega)⟩
        refine sub_bd ?_ (lt_pow_add hc (hm y List.mem_cons_self))
        rename_i hl
        have e : l[n]? = some l[n] := List.getElem?_eq_getElem hl
        rw [List.getD_eq_getElem?_getD, e]
        exact (h n _ e).2 (Nat.le_refl _)
      · cases hi
    · rw [List.getElem?_set_ne hin] at hi
      exact ⟨(h i x hi).1, fun z => (h i x hi).2 (by omega)⟩
theorem cut_bd {l : List Int} {n : Nat} (h : Bd l n) : Bd (cut l) n := fun x hx => h x (List.mem_of_mem_take hx)
theorem nextR_bd {m r : List Int} {a b : Nat} (hr : Bd r a) (hm : Bd m b) : Bd (nextR m r) (a + (b + 1)) := by
  refine cut_bd fun x hx => ?_
  refine subAt_bd (byOf_bd hr) m _ _ hm (fun i x hi => ?_) x (List.dropLast_subset _ hx)
  have h1 := map_bd hr hm x (List.mem_of_getElem? hi)
  exact ⟨Nat.lt_of_lt_of_le h1 (Nat.pow_le_pow_right (by decide) (by omega)), fun _ => h1⟩
theorem nextQ_bd {m r q : List Int} {a b : Nat} (hq : Bd q a) (hr : Bd r a) (hm : Bd m b) : Bd (nextQ m r q) (a + (b + 1)) := by
  have h1 := map_bd hq hm
  refine set_bd (h1.mono (by omega)) ?_
  refine add_bd (a := a + b) (getD_bd h1) ?_
  exact Nat.lt_of_lt_of_le (byOf_bd hr) (Nat.pow_le_pow_right (by decide) (by omega))
/-- what shared asks of its rows: not too large -/
def ShOk (l m : List Int) : Prop := m ≠ [] ∧ l.length ≤ 500 ∧ m.length ≤ 500 ∧ ∃ a b, Bd l a ∧ Bd m b ∧ a + (l.length + 1 - m.length) * (b + 1) + b ≤ 60000000
def sp_shared (K : PySem.W.Frag) : Sp := fun vs H Q _ => ∃ (v u : V) (l m : List Int), vs = [v, u] ∧ IsI H v l ∧ IsI H u m ∧ ShOk l m ∧
  RetP (fun z H' => ∃ p a b, z = .ref p ∧ SqT K H' p [a, b] ∧ IsI H' a (sh l m).1 ∧ IsI H' b (sh l m).2) H Q
theorem lastV {l : List Int} (h : l ≠ []) : atI (l.map V.int) (-1) = some (.int (lastI l)) := by
  have hz : l.map V.int = l.dropLast.map V.int ++ [.int (l.getLast h)] := by
    rw [← List.map_singleton, ← List.map_append, List.dropLast_concat_getLast]
  rw [hz, atI_last]
  unfold lastI
  rw [List.getD_eq_getElem?_getD, List.getLast_eq_getElem, List.getElem?_eq_getElem (by have := List.length_pos_iff.mpr h; omega)]
  rfl
section
variable {P : Program} {w : World} {K : PySem.W.Frag} {mg : Str → Option Value} {base : Heap}
theorem int_max (x y : Nat) : (if ((x : Int) - (y : Int) + 1) > 1 then ((x : Int) - (y : Int) + 1) else 1) = ((max 1 (x + 1 - y) : Nat) : Int) := by
  split <;> omega
theorem rep_map (n : Nat) : (List.replicate n [V.int 0]).flatten = (List.replicate n (0 : Int)).map V.int := by
  induction n with
  | zero => rfl
  | succ n ih => rw [List.replicate_succ, List.replicate_succ, List.flatten_cons, ih]; rfl
theorem Bd.sm {l : List Int} {n : Nat} (h : Bd l n) (hn : n ≤ 60000000) {x : Int} (hx : x ∈ l) : Sm x := ⟨n, hn, h x hx⟩
theorem set_map (l : List Int) (i : Nat) (x : Int) : (l.map V.int).set i (.int x) = (l.set i x).map V.int := by
  rw [List.map_set]
theorem ixN_nat {n j : Nat} (h : j < n) : ixN n (j : Int) = some j := by
  unfold ixN
  rw [if_pos (by omega), if_pos (by omega), Int.toNat_natCast]
theorem h_shared (T : Txt K mg) {k : Nat} (G_trimmed : Has P w K mg base "trimmed" ["row"] k sp_trimmed) : Has P w K mg base "shared" ["row", "other"] (k + 1) (sp_shared K) := by
  refine has_of T.d_shared sc_shared (fun vs H Q E h => ?_) (fun f cdv A outer s H vs Q E hr h => ?_)
  · obtain ⟨v, u, l, m, rfl, _⟩ := h
    rfl
  · obtain ⟨v, u, l, m, rfl, ⟨a, rfl, hA⟩, ⟨b, rfl, hB⟩, ⟨hm, hl, hml, α, β, bl, bm, hab⟩, q⟩ := h
    have hmp := List.length_pos_iff.mpr hm
    refine ⟨_, (pss_cons (ps_par3 (i := 2) (j := 3) (l := 4) (by rfl) sc_shared.nd rfl rfl rfl (by decide) (by decide) (by decide) rfl rfl rfl (pa_cons (pe_callTy call_list_of (by rfl) T.b_list (by decide +kernel) (pa_cons (pv 0) pa_nil)) (pa_cons (pe_op op_rep (pe_lst (pa_cons pe_int pa_nil)) (pe_callB (call_max2 rfl) (by rfl) T.b_max (by decide +kernel) (pa_cons pe_int (pa_cons (pe_op op_add (pe_op op_sub (pe_callB call_len_seq (by rfl) T.b_len PySem.boot_len (pa_cons (pv 0) pa_nil)) (pe_callB call_len_seq (by rfl) T.b_len PySem.boot_len (pa_cons (pv 1) pa_nil))) pe_int) pa_nil)))) (pa_cons (pe_ix ix_list (pv 1) (pe_un un_neg pe_int) (fun _ _ => rfl)) pa_nil))) (by rfl)) (Evl.pss_cut (ps_asg (pe_tup (pa_cons (pe_callB call_abs (by rfl) T.b_abs (by decide +kernel) (pa_cons (pv 4) pa_nil)) (pa_cons (pe_ifExp (pt_cmpR op_gt (pv 4) pe_int (nomark _)) pe_int (pe_un un_neg pe_int)) pa_nil))) (pg_tup rfl (pgs_cons (pg_name (i := 5) sc_shared.nd rfl (.inr rfl)) (pgs_cons (pg_name (i := 6) sc_shared.nd rfl (.inl rfl)) pgs_nil)))) (Evl.pss_cut (ps_while PassesOwn.never (pt_cmpR op_ge (pe_callB call_len_seq (by rfl) T.b_len PySem.boot_len (pa_cons (pv 2) pa_nil)) (pe_callB call_len_seq (by rfl) T.b_len PySem.boot_len (pa_cons (pv 1) pa_nil)) (nomark _)) (pss_cons (ps_par (i := 7) (j := 8) (by rfl) sc_shared.nd rfl rfl (by decide) rfl rfl (pa_cons (pe_op op_sub (pe_callB call_len_seq (by rfl) T.b_len PySem.boot_len (pa_cons (pv 2) pa_nil)) (pe_callB call_len_seq (by rfl) T.b_len PySem.boot_len (pa_cons (pv 1) pa_nil))) (pa_cons (pe_op op_mulX (pv 6) (pe_ix ix_list (pv 2) (pe_un un_neg pe_int) (fun _ _ => rfl))) pa_nil)) (by rfl)) (pss_cons (ps_setLc (i := 3) (own := [("number", 9)]) (g := (gName 9)) rfl sc_shared.nd rfl rfl (sw_true rfl rfl rfl (by decide +kernel)) (pi_list (pv 3)) (blkOk_by (own := [("number", 9)]) (N := ["row", "other", "rest", "quotient", "lead", "size", "sign", "at", "by", "number", "k"]) (sc := defScope s_shared) (by decide +kernel)) (fun _ _ _ _ _ => (pg_name (i := 9) sc_shared.nd rfl (.inl rfl) (hf := .inr rfl))) (fun _ _ _ _ _ => pts_nil) (fun _ _ _ _ _ => (pe_op op_mulX (pv 9) (pv 5)))) (pss_cons (ps_augS (pv 3) (pv 7) get_list (pv 8) ip_add set_list) (pss_cons (ps_setLc (i := 2) (own := [("number", 9)]) (g := (gName 9)) rfl sc_shared.nd rfl rfl (sw_true rfl rfl rfl (by decide +kernel)) (pi_list (pv 2)) (blkOk_by (own := [("number", 9)]) (N := ["row", "other", "rest", "quotient", "lead", "size", "sign", "at", "by", "number", "k"]) (sc := defScope s_shared) (by decide +kernel)) (fun _ _ _ _ _ => (pg_name (i := 9) sc_shared.nd rfl (.inl rfl) (hf := .inr rfl))) (fun _ _ _ _ _ => pts_nil) (fun _ _ _ _ _ => (pe_op op_mulX (pv 9) (pv 5)))) (Evl.pss_cut (ps_for PassesOwn.never rfl (pi_enum (by rfl) T.b_enumerate (pa_cons (pv 1) pa_nil)) (pg_tup rfl (pgs_cons (pg_name (i := 10) sc_shared.nd rfl (.inl rfl)) (pgs_cons (pg_name (i := 9) sc_shared.nd rfl (.inl rfl)) pgs_nil))) (pss_one (ps_augS (pv 2) (pe_op op_add (pv 7) (pv 10)) get_list (pe_op op_mulX (pv 8) (pv 9)) ip_sub set_list))) (pss_cons (ps_set (i := 2) sc_shared.nd rfl (.inl rfl) (pe_slice sl_list (pv 2) po_none (po_some (pe_un un_neg pe_int)))) (pss_one (ps_while PassesOwn.never (PW.pt (pw_and (pt_cmpR op_gt (pe_callB call_len_seq (by rfl) T.b_len PySem.boot_len (pa_cons (pv 2) pa_nil)) pe_int (nomark _)) (pw_and1 (pt_cmpR op_eq (pe_ix ix_list (pv 2) (pe_un un_neg pe_int) (fun _ _ => rfl)) pe_int (nomark _))))) (pss_one (ps_set (i := 2) sc_shared.nd rfl (.inl rfl) (pe_slice sl_list (pv 2) po_none (po_some (pe_un un_neg pe_int)))))))))))))) (pss_one (ps_ret (pe_tup (pa_cons (pe_callH G_trimmed hr (by rfl) (pa_cons (pv 3) pa_nil)) (pa_cons (pe_callH G_trimmed hr (by rfl) (pa_cons (pv 2) pa_nil)) pa_nil)))))))), ?_⟩
    -- rest, quotient, lead
    refine ⟨_, rfl, a, _, rfl, .inl (.of hA), fun r hr => ?_⟩
    have s1 := same_new (o := .lst (l.map V.int)) hr
    refine ⟨by show 1 ≤ sizeLine; decide, fun z hz => ?_⟩
    have s2 := s1.trans (same_new (o := .lst [.int 0]) hz)
    refine ⟨_, rfl, a, _, rfl, .inl (.of (s2 _ _ hA)), _, rfl, b, _, rfl, .inl (.of (s2 _ _ hB)), _, _, rfl, rfl, _, _, rfl, rfl, _, _, rfl, ?_⟩
    rw [List.length_map, List.length_map, int_max]
    refine ⟨z, _, _, rfl, rfl, upd_same, by omega, by omega, by show 1 * _ ≤ sizeLine; rw [Int.toNat_natCast, sizeLine_eq]; omega, fun qd hq => ?_⟩
    rw [Int.toNat_natCast, rep_map]
    generalize hL0 : max 1 (l.length + 1 - m.length) = L0
    have s3 := s2.trans (same_new (o := .lst ((List.replicate L0 (0 : Int)).map V.int)) hq)
    have hrq : r ≠ qd := fun e => by
      subst e
      have := (same_new (o := .lst [.int 0]) hz) _ _ (upd_same (H := H) (a := r) (o := .lst (l.map V.int)))
      rw [this] at hq
      cases hq
    have hqH : H qd = none := s2.free hq
    have hr3 : (upd (upd (upd H r (.lst (l.map V.int))) z (.lst [.int 0])) qd (.lst ((List.replicate L0 (0 : Int)).map V.int))) r = some (.lst (l.map V.int)) :=
      (same_new hq) _ _ ((same_new hz) _ _ upd_same)
    refine ⟨_, rfl, _, rfl, b, _, _, _, rfl, rfl, .of (s3 _ _ hB), lastV hm, _, _, _, rfl, ?_⟩
    -- size, sign
    refine ⟨fun σ H' => σ = [some (.ref a), some (.ref b), some (.ref r), some (.ref qd), some (.int (lastI m)), some (.int (sizeOfI m)), some (.int (sgnI (lastI m))), none, none, none, none] ∧
      Same (upd (upd (upd H r (.lst (l.map V.int))) z (.lst [.int 0])) qd (.lst ((List.replicate L0 (0 : Int)).map V.int))) H', ?_, fun σ H4 hM => ?_⟩
    · refine ⟨_, rfl, _, rfl, _, rfl, _, _, rfl, rfl, _, rfl, ?_⟩
      rw [abs_val]
      by_cases hp : 0 < lastI m
      · refine ifT (decide_eq_true hp) ?_
        refine ⟨by show 2 ≤ sizeLine; decide, fun p hp' => ?_⟩
        refine ⟨p, _, rfl, .of upd_same, rfl, _, _, rfl, _, _, rfl, rfl, ⟨?_, same_new hp'⟩⟩
        rw [show sgnI (lastI m) = 1 from if_pos hp]
        rfl
      · refine ifF (decide_eq_false hp) ?_
        refine ⟨1, rfl, by show 2 ≤ sizeLine; decide, fun p hp' => ?_⟩
        refine ⟨p, _, rfl, .of upd_same, rfl, _, _, rfl, _, _, rfl, rfl, ⟨?_, same_new hp'⟩⟩
        rw [show sgnI (lastI m) = -1 from if_neg hp]
        rfl
    obtain ⟨rfl, s4⟩ := hM
    have s5 := s3.trans s4
    have hr4 := s4 _ _ hr3
    have hq4 := s4 _ _ (upd_same (H := upd (upd H r (.lst (l.map V.int))) z (.lst [.int 0])) (a := qd) (o := .lst ((List.replicate L0 (0 : Int)).map V.int)))
    have hLm : l.length + 1 - m.length ≤ L0 := by omega
    have hL1 : L0 ≤ 1000 := by omega
    -- the loop
    refine ⟨fun σ H' => ∃ (r q : Addr) (y7 y8 y9 y10 : Option V), σ = [some (.ref a), some (.ref b), some (.ref r), some (.ref q), some (.int (lastI m)), some (.int (sizeOfI m)), some (.int (sgnI (lastI m))), y7, y8, y9, y10] ∧ Same H H' ∧
      H' q = some (.lst ((shGo m (l.length + 1) l (List.replicate L0 0)).1.map V.int)) ∧ H' r = some (.lst ((shGo m (l.length + 1) l (List.replicate L0 0)).2.map V.int)) ∧
      (shGo m (l.length + 1) l (List.replicate L0 0)).1.length ≤ 1000 ∧ (shGo m (l.length + 1) l (List.replicate L0 0)).2.length ≤ 1000, ?_, fun σ H6 hM => ?_⟩
    · refine ⟨fun n σ H' => ∃ (r q : Addr) (rl ql : List Int) (y7 y8 y9 y10 : Option V), σ = [some (.ref a), some (.ref b), some (.ref r), some (.ref q), some (.int (lastI m)), some (.int (sizeOfI m)), some (.int (sgnI (lastI m))), y7, y8, y9, y10] ∧ Same H H' ∧
        H r = none ∧ H q = none ∧ r ≠ q ∧ H' r = some (.lst (rl.map V.int)) ∧ H' q = some (.lst (ql.map V.int)) ∧ shGo m n rl ql = shGo m (l.length + 1) l (List.replicate L0 0) ∧ rl.length < n ∧
        rl.length ≤ l.length ∧ ql.length = L0 ∧ Bd rl (α + (l.length - rl.length) * (β + 1)) ∧ Bd ql (α + (l.length - rl.length) * (β + 1)),
        ⟨l.length + 1, r, qd, l, List.replicate L0 0, _, _, _, _, rfl, s5, hr, hqH, hrq, hr4, hq4, rfl, by omega, Nat.le_refl _, List.length_replicate, ?_, ?_⟩, fun n σ H' hW => ?_⟩
      · rw [Nat.sub_self, Nat.zero_mul]
        exact bl
      · intro x hx
        rw [List.eq_of_mem_replicate hx]
        exact Nat.pow_pos (by decide)
      obtain ⟨r, qd, rl, ql, y7, y8, y9, y10, rfl, sm, nr, nq, hrq, er, eq, hgo, hn, hrl, hql, br, bq⟩ := hW
      refine ⟨_, rfl, r, _, rfl, .inl (.of er), _, rfl, b, _, rfl, .inl (.of (sm _ _ hB)), _, _, rfl, rfl, _, rfl, ?_⟩
      rw [List.length_map, List.length_map]
      obtain ⟨n, rfl⟩ : ∃ n', n = n' + 1 := ⟨n - 1, by omega⟩
      by_cases hle : m.length ≤ rl.length
      · refine ifT (decide_eq_true (by omega)) ?_
        refine ⟨_, fun σ' H' hN => ⟨n, Nat.lt_succ_self n, hN⟩, ?_⟩
        have hrl0 : rl ≠ [] := fun e => by
          rw [e] at hle
          have : ([] : List Int).length = 0 := rfl
          omega
        have hT1 : (l.length - rl.length + 1) * (β + 1) ≤ (l.length + 1 - m.length) * (β + 1) := Nat.mul_le_mul_right _ (by omega)
        have hT2 : (l.length - rl.length + 1) * (β + 1) = (l.length - rl.length) * (β + 1) + (β + 1) := Nat.succ_mul _ _
        generalize hγ : α + (l.length - rl.length) * (β + 1) = γ at br bq
        have hγ2 : γ + (β + 1) + β ≤ 60000000 := by omega
        have hat : ((((rl.map V.int).length : Nat) : Int) - (((m.map V.int).length : Nat) : Int)) = ((rl.length - m.length : Nat) : Int) := by rw [List.length_map, List.length_map]; omega
        have hby : (byOf m rl).natAbs < 2 ^ γ := byOf_bd br
        have hsz : (sizeOfI m).natAbs < 2 ^ β := size_bd bm
        have sgb : (sgnI (lastI m)).natAbs ≤ 1000000 := by unfold sgnI; split <;> decide
        -- at, by
        refine ⟨_, rfl, r, _, rfl, .inl (.of er), _, rfl, b, _, rfl, .inl (.of (sm _ _ hB)), _, _, rfl, rfl, _, rfl, _, rfl, _, rfl, r, _, _, _, rfl, rfl, .of er, lastV hrl0, _, _, rfl, rfl, mul_sm (sm_small sgb) (sm_of (lastI_bd br) (by omega)), .int ((rl.length - m.length : Nat) : Int), .int (byOf m rl), by dsimp only; rw [hat]; rfl, ?_⟩
        -- quotient
        refine ⟨_, rfl, qd, rfl, ⟨_, .of eq⟩, fun D hD => lcL (xs := ql.map V.int) (fun i v _ => ∃ x : Int, (ql.map fun x => x * sizeOfI m)[i]? = some x ∧ v = .int x) (by rw [List.length_map]; omega) hD eq (fun _ _ _ _ _ h => h) (fun i x H' hx s4 Qk Nx k => ?_) (fun H7 ws s7 hW hlw hv => ?_)⟩
        · rw [List.getElem?_map] at hx
          obtain ⟨z, ez, rfl⟩ := Option.map_eq_some_iff.mp hx
          refine yesE rfl ?_
          refine ⟨_, rfl, _, rfl, _, _, rfl, rfl, mul_sm (bq.sm (by omega) (List.mem_of_getElem? ez)) (sm_of hsz (by omega)), ?_⟩
          refine k _ _ (Same.refl _) ⟨_, ?_, rfl⟩
          rw [List.getElem?_map, ez]
          rfl
        rw [ints_of (ys := ql.map fun x => x * sizeOfI m) (by rw [hlw, List.length_map, List.length_map]) hv] at hW
        have nD : H D = none := sm.free hD
        have hql' : rl.length - m.length < (ql.map fun x => x * sizeOfI m).length := by rw [List.length_map]; omega
        have gq := get_int (List.getElem?_eq_getElem hql')
        refine ⟨_, rfl, _, rfl, D, _, rl.length - m.length, _, rfl, rfl, .of hW, gq, _, rfl, _, _, rfl, rfl, D, _, _, rl.length - m.length, rfl, rfl, hW, ?_, ?_⟩
        · rw [List.length_map]
          exact ixN_nat hql'
        have enq : ((ql.map fun x => x * sizeOfI m).map V.int).set (rl.length - m.length) (.int ((ql.map fun x => x * sizeOfI m)[rl.length - m.length] + byOf m rl)) = (nextQ m rl ql).map V.int := by
          rw [set_map]
          unfold nextQ
          dsimp only
          rw [List.getD_eq_getElem?_getD, List.getElem?_eq_getElem hql']
          rfl
        dsimp only
        rw [enq]
        have s8 : Same H (upd H7 D (.lst ((nextQ m rl ql).map V.int))) := same_mut (sm.trans s7) nD
        have er8 : (upd H7 D (.lst ((nextQ m rl ql).map V.int))) r = some (.lst (rl.map V.int)) := by
          rw [upd_ne (ne_of_none er hD)]
          exact s7 _ _ er
        -- rest
        refine ⟨_, rfl, r, rfl, ⟨_, .of er8⟩, fun D2 hD2 => lcL (xs := rl.map V.int) (fun i v _ => ∃ x : Int, (rl.map fun x => x * sizeOfI m)[i]? = some x ∧ v = .int x) (by rw [List.length_map]; omega) hD2 er8 (fun _ _ _ _ _ h => h) (fun i x H' hx s4 Qk Nx k => ?_) (fun H9 ws2 s9 hW2 hlw2 hv2 => ?_)⟩
        · rw [List.getElem?_map] at hx
          obtain ⟨z, ez, rfl⟩ := Option.map_eq_some_iff.mp hx
          refine yesE rfl ?_
          refine ⟨_, rfl, _, rfl, _, _, rfl, rfl, mul_sm (br.sm (by omega) (List.mem_of_getElem? ez)) (sm_of hsz (by omega)), ?_⟩
          refine k _ _ (Same.refl _) ⟨_, ?_, rfl⟩
          rw [List.getElem?_map, ez]
          rfl
        rw [ints_of (ys := rl.map fun x => x * sizeOfI m) (by rw [hlw2, List.length_map, List.length_map]) hv2] at hW2
        generalize hrl' : (rl.map fun x => x * sizeOfI m) = rl' at hW2
        have lrl' : rl'.length = rl.length := by rw [← hrl', List.length_map]
        have nD2 : H D2 = none := s8.free hD2
        have hDD2 : D ≠ D2 := fun e => by
          subst e
          rw [upd_same] at hD2
          cases hD2
        have eq9 := s9 _ _ (upd_same (H := H7) (a := D) (o := .lst ((nextQ m rl ql).map V.int)))
        have s89 := s8.trans s9
        -- less by times the other
        refine ⟨fun σ H' => ∃ y9 y10, σ = [some (.ref a), some (.ref b), some (.ref D2), some (.ref D), some (.int (lastI m)), some (.int (sizeOfI m)), some (.int (sgnI (lastI m))), some (.int ((rl.length - m.length : Nat) : Int)), some (.int (byOf m rl)), y9, y10] ∧
          Same H H' ∧ H' D2 = some (.lst ((subAt rl' (rl.length - m.length) (byOf m rl) m).map V.int)) ∧ H' D = some (.lst ((nextQ m rl ql).map V.int)), ?_, fun σ H10 hM => ?_⟩
        · refine ⟨_, rfl, b, _, rfl, .of (s89 _ _ hB), forG (n := m.length) (fun i σ H' => ∃ y9 y10, σ = [some (.ref a), some (.ref b), some (.ref D2), some (.ref D), some (.int (lastI m)), some (.int (sizeOfI m)), some (.int (sgnI (lastI m))), some (.int ((rl.length - m.length : Nat) : Int)), some (.int (byOf m rl)), y9, y10] ∧
            Same H H' ∧ H' D2 = some (.lst ((subAt rl' (rl.length - m.length) (byOf m rl) (m.take i)).map V.int)) ∧ H' D = some (.lst ((nextQ m rl ql).map V.int)))
            ⟨_, _, rfl, s89, hW2, eq9⟩ (fun i σ H' hi h => ?_) (fun σ H' h => ?_) (fun i x σ H' H'' hi h hy => ?_) (fun σ H' h => ?_)⟩
          · obtain ⟨_, _, _, sx, _⟩ := h
            exact ⟨m.map V.int, .int m[i], .of (sx _ _ hB), get_int (List.getElem?_eq_getElem hi)⟩
          · obtain ⟨_, _, _, sx, _⟩ := h
            exact ⟨m.map V.int, .of (sx _ _ hB), by rw [List.length_map]; exact Nat.le_refl _⟩
          · obtain ⟨y9, y10, rfl, sx, ex2, exD⟩ := h
            obtain ⟨T', z, rfl, nT, rfl, hz⟩ := hy
            have ez := hz _ (.of (sx _ _ hB))
            rw [get_int (List.getElem?_eq_getElem hi)] at ez
            cases ez
            have sT := same_new (o := .tup [.int (i : Nat), .int m[i]]) nT
            refine ⟨T', _, rfl, .of upd_same, rfl, _, _, rfl, _, _, rfl, rfl, ?_⟩
            have hix : rl.length - m.length + i < (subAt rl' (rl.length - m.length) (byOf m rl) (m.take i)).length := by rw [subAt_len]; omega
            have gi := get_int (List.getElem?_eq_getElem hix)
            refine ⟨_, rfl, _, rfl, _, rfl, _, _, rfl, rfl, D2, _, rl.length - m.length + i, _, rfl, by rw [Int.natCast_add], .of (sT _ _ ex2), gi, _, rfl, _, rfl, _, _, rfl, rfl, mul_sm (sm_of hby (by omega)) (bm.sm (by omega) (List.getElem_mem hi)), _, _, rfl, rfl, D2, _, _, rl.length - m.length + i, rfl, (by dsimp only; try rw [Int.natCast_add]), sT _ _ ex2, ?_, ?_⟩
            · rw [List.length_map]
              exact ixN_nat hix
            · refine ⟨_, _, rfl, same_mut (sx.trans sT) nD2, ?_, ?_⟩
              · rw [upd_same, List.take_add_one, List.getElem?_eq_getElem hi]
                show some (HO.lst _) = some (HO.lst ((subAt rl' _ _ (m.take i ++ [m[i]])).map V.int))
                rw [subAt_snoc, ← set_map, List.length_take, Nat.min_eq_left (by omega), List.getD_eq_getElem?_getD, List.getElem?_eq_getElem hix]
                rfl
              · rw [upd_ne hDD2]
                exact sT _ _ exD
          · rw [List.take_length] at h
            exact h
        obtain ⟨y9, y10, rfl, s10, e2, eD⟩ := hM
        -- rest = rest[:-1]
        refine ⟨_, rfl, _, rfl, _, rfl, D2, _, rfl, .of e2, fun p1 hp1 => ?_⟩
        rw [cut_init, ← List.map_dropLast]
        generalize hX : (subAt rl' (rl.length - m.length) (byOf m rl) m).dropLast = X
        have lX : X.length ≤ rl.length - 1 := by rw [← hX, List.length_dropLast, subAt_len, lrl']; exact Nat.le_refl _
        have hcut : cut X = nextR m rl := by
          unfold nextR
          rw [← hX, ← hrl']
        have s11 := s10.trans (same_new (o := .lst (X.map V.int)) hp1)
        have nDp : D ≠ p1 := ne_of_none eD hp1
        -- zeros at the end
        refine ⟨fun j σ H' => ∃ p2, σ = [some (.ref a), some (.ref b), some (.ref p2), some (.ref D), some (.int (lastI m)), some (.int (sizeOfI m)), some (.int (sgnI (lastI m))), some (.int ((rl.length - m.length : Nat) : Int)), some (.int (byOf m rl)), y9, y10] ∧
          Same H H' ∧ H p2 = none ∧ p2 ≠ D ∧ H' p2 = some (.lst ((X.take j).map V.int)) ∧ H' D = some (.lst ((nextQ m rl ql).map V.int)) ∧ j ≤ X.length ∧ manyOf X j = manyOf X X.length,
          ⟨X.length, p1, rfl, s11, s10.free hp1, nDp.symm, by rw [upd_same, List.take_length], by rw [upd_ne nDp]; exact eD, Nat.le_refl _, rfl⟩, fun j σ H' hW => ?_⟩
        obtain ⟨p2, rfl, sx, np2, nd2, ep2, eD', hj, hmj⟩ := hW
        have lj : (X.take j).length = j := by rw [List.length_take]; omega
        have fin : j = manyOf X j → X.take j = nextR m rl ∧ (nextR m rl).length ≤ rl.length - 1 ∧ γ + (β + 1) ≤ α + (l.length - (nextR m rl).length) * (β + 1) ∧
            shGo m n (nextR m rl) (nextQ m rl ql) = shGo m (l.length + 1) l (List.replicate L0 0) := fun e => by
          have e3 : X.take j = nextR m rl := by
            rw [← hcut]
            unfold cut
            rw [← hmj, ← e]
          have l3 := nextR_len m rl
          have h1 : (l.length - rl.length + 1) * (β + 1) ≤ (l.length - (nextR m rl).length) * (β + 1) := Nat.mul_le_mul_right _ (by omega)
          refine ⟨e3, l3, by omega, ?_⟩
          rw [← hgo]
          exact (if_pos hle).symm
        refine ⟨_, rfl, p2, _, rfl, .inl (.of ep2), _, _, rfl, rfl, _, rfl, ?_⟩
        rw [List.length_map, lj]
        cases j with
        | zero =>
          refine ifF (decide_eq_false (by omega)) ?_
          refine iteF ?_
          obtain ⟨e3, l3, hγ3, hg3⟩ := fin rfl
          exact ⟨p2, D, nextR m rl, nextQ m rl ql, _, _, _, _, rfl, sx, np2, nD, nd2, by rw [ep2, e3], eD', hg3, by omega, by omega, by rw [nextQ_len, hql], (nextR_bd br bm).mono hγ3, (nextQ_bd bq br bm).mono hγ3⟩
        | succ j =>
          refine ifT (decide_eq_true (by omega)) ?_
          have hjl : j < X.length := by omega
          have glast : atI ((X.take (j + 1)).map V.int) (-1) = some (.int X[j]) := by
            rw [List.take_add_one, List.getElem?_eq_getElem hjl, List.map_append]
            exact atI_last _ _
          refine ⟨_, rfl, _, rfl, p2, _, _, _, rfl, rfl, .of ep2, glast, rfl, _, rfl, ?_⟩
          by_cases hz : X[j] = 0
          · refine ifT (decide_eq_true (by rw [hz])) ?_
            refine ⟨_, fun σ' H'' hN => ⟨j, Nat.lt_succ_self j, hN⟩, ?_⟩
            refine ⟨_, rfl, _, rfl, _, rfl, p2, _, rfl, .of ep2, fun p3 hp3 => ?_⟩
            rw [cut_init, ← List.map_dropLast, show (X.take (j + 1)).dropLast = X.take j by rw [List.dropLast_eq_take, List.length_take, List.take_take]; congr 1; try omega]
            refine ⟨p3, rfl, sx.trans (same_new hp3), sx.free hp3, (ne_of_none eD' hp3).symm, upd_same, by rw [upd_ne (ne_of_none eD' hp3)]; exact eD', by omega, ?_⟩
            rw [← hmj]
            exact (if_pos (by rw [List.getElem?_eq_getElem hjl, hz])).symm
          · refine ifF (decide_eq_false (fun z => hz (V.int.inj z))) ?_
            obtain ⟨e3, l3, hγ3, hg3⟩ := fin (by
              have : manyOf X (j + 1) = j + 1 := if_neg (by rw [List.getElem?_eq_getElem hjl]; exact fun z => hz (Option.some.inj z))
              rw [this])
            exact ⟨p2, D, nextR m rl, nextQ m rl ql, _, _, _, _, rfl, sx, np2, nD, nd2, by rw [ep2, e3], eD', hg3, by omega, by omega, by rw [nextQ_len, hql], (nextR_bd br bm).mono hγ3, (nextQ_bd bq br bm).mono hγ3⟩
      · refine ifF (decide_eq_false (by omega)) ?_
        have e : shGo m (n + 1) rl ql = (ql, rl) := if_neg hle
        rw [← hgo, e]
        exact ⟨r, qd, _, _, _, _, rfl, sm, eq, er, by show ql.length ≤ 1000; omega, by show rl.length ≤ 1000; omega⟩
    obtain ⟨r', q', y7, y8, y9, y10, rfl, sm, eq, er, lq, lr⟩ := hM
    have e1 : sh l m = (trim (shGo m (l.length + 1) l (List.replicate L0 0)).1, trim (shGo m (l.length + 1) l (List.replicate L0 0)).2) := by
      unfold sh
      rw [hL0]
    rw [e1] at q
    refine ⟨_, rfl, _, _, rfl, ⟨q', rfl, eq⟩, lq, fun v1 H7 s7 i1 => ?_⟩
    refine ⟨_, rfl, _, _, rfl, ⟨r', rfl, s7 _ _ er⟩, lr, fun v2 H8 s8 i2 => ?_⟩
    refine ⟨by show 2 ≤ sizeLine; decide, fun p hp => ?_⟩
    have s9 := same_new (o := .tup [v1, v2]) hp
    refine q _ _ (sm.trans (s7.trans (s8.trans s9))) ⟨p, v1, v2, rfl, .of upd_same, (i1.mono (s8.trans s9)), i2.mono s9⟩
end
end Kq

set_option Elab.async false
set_option linter.all false
set_option maxRecDepth 100000
set_option maxHeartbeats 4000000
/-! divisor_of_rows, single_zeros, signs_at -/
namespace Kq
open PySem PySem.Spec PyProof.Rows L2
/-! ### plain -/
inductive Euc : Nat → List Int → List Int → List Int → Prop where
  | nil (l : List Int) : Euc 0 l [] l
  | step {n : Nat} {l m d : List Int} (h : ShOk l m) (r : Euc n m (sh l m).2 d) : Euc (n + 1) l m d
/-- what single_zeros makes of a row -/
inductive SZ1 : List Int → List Int → Prop where
  | one {l : List Int} (h : l.length = 1) : SZ1 l l
  | more {l d : List Int} {n : Nat} (h : 1 < l.length) (sm : ∀ x ∈ l, Sm x) (e : Euc n l (slope l) d) (o : ShOk l d) : SZ1 l (sh l d).1
def noZero (f : List Int) : List Int := if f.head? = some 0 then f.drop 1 else f
def noOne (f : List Int) : List Int := if f.sum = 0 then (sh f [-1, 1]).1 else f
def SZ (l f : List Int) : Prop := l.length ≤ 500 ∧ ∃ f1, SZ1 l f1 ∧ f1 ≠ [] ∧ f1.length ≤ 500 ∧ ((noZero f1).sum = 0 → ShOk (noZero f1) [-1, 1]) ∧ f = noOne (noZero f1)
/-- a polynomial at top / bottom, times a power of bottom -/
def hom (t b : Int) (l : List Int) : Int × Int := l.foldr (fun c s => (s.1 * t + c * s.2, s.2 * b)) (0, 1)
def sgnAt (l : List Int) (q : Rat) : Int := (hom q.num (q.den : Int) l).1.sign
def AtOk (l : List Int) (q : Rat) : Prop := l.length ≤ 500 ∧ ∃ a b, Bd l a ∧ q.num.natAbs < 2 ^ b ∧ q.den < 2 ^ b ∧ a + 1 + l.length * (b + 2) ≤ 60000000 ∧ b ≤ 60000000
theorem hom_bd {t b' : Int} {a b : Nat} (ht : t.natAbs < 2 ^ b) (hb : b'.natAbs < 2 ^ b) : ∀ l : List Int, Bd l a → (hom t b' l).1.natAbs < 2 ^ (a + 1 + l.length * (b + 2)) ∧ (hom t b' l).2.natAbs < 2 ^ (l.length * b + 1)
  | [], _ => ⟨Nat.pow_pos (by decide), by show 1 < 2 ^ (0 * b + 1); rw [Nat.zero_mul]; decide⟩
  | c :: l, h => by
    obtain ⟨h1, h2⟩ := hom_bd ht hb l (fun x hx => h x (List.mem_cons_of_mem _ hx))
    have hc := h c List.mem_cons_self
    show ((hom t b' l).1 * t + c * (hom t b' l).2).natAbs < 2 ^ (a + 1 + (l.length + 1) * (b + 2)) ∧ ((hom t b' l).2 * b').natAbs < 2 ^ ((l.length + 1) * b + 1)
    have m1 := lt_pow_add h1 ht
    have m2 := lt_pow_add hc h2
    have m3 := lt_pow_add h2 hb
    have e1 : (l.length + 1) * (b + 2) = l.length * (b + 2) + (b + 2) := Nat.succ_mul _ _
    have e2 : (l.length + 1) * b = l.length * b + b := Nat.succ_mul _ _
    have e3 : l.length * (b + 2) = l.length * b + l.length * 2 := Nat.mul_add _ _ _
    refine ⟨?_, ?_⟩
    · refine Nat.lt_of_lt_of_le (add_bd (a := a + 1 + l.length * (b + 2) + b) m1 (Nat.lt_of_lt_of_le m2 (Nat.pow_le_pow_right (by decide) (by omega)))) (Nat.pow_le_pow_right (by decide) (by omega))
    · refine Nat.lt_of_lt_of_le m3 (Nat.pow_le_pow_right (by decide) (by omega))
def sp_divisor_of_rows : Sp := fun vs H Q _ => ∃ (v u : V) (l m d : List Int) (n : Nat), vs = [v, u] ∧ IsI H v l ∧ IsI H u m ∧ Euc n l m d ∧ RetP (fun z H' => IsI H' z d) H Q
def sp_single_zeros : Sp := fun vs H Q _ => ∃ (v : V) (l f : List Int), vs = [v] ∧ IsI H v l ∧ SZ l f ∧ RetP (fun z H' => IsI H' z f) H Q
def sp_signs_at (K : PySem.W.Frag) : Sp := fun vs H Q _ => ∃ (v u : V) (l : List Int) (r : Rat), vs = [v, u] ∧ IsI H v l ∧ IsQ K H u r ∧ AtOk l r ∧ RetV (.int (sgnAt l r)) H Q
section
variable {P : Program} {w : World} {K : PySem.W.Frag} {mg : Str → Option Value} {base : Heap}
theorem h_divisor_of_rows (T : Txt K mg) {k : Nat} (G_shared : Has P w K mg base "shared" ["row", "other"] k (sp_shared K)) : Has P w K mg base "divisor_of_rows" ["row", "other"] (k + 1) sp_divisor_of_rows := by
  refine has_of T.d_divisor_of_rows sc_divisor_of_rows (fun vs H Q E h => ?_) (fun f cdv A outer s H vs Q E hr h => ?_)
  · obtain ⟨v, u, l, m, d, n, rfl, _⟩ := h
    rfl
  · obtain ⟨v, u, l, m, d, n, rfl, hv, hu, he, q⟩ := h
    refine ⟨_, (Evl.pss_cut (ps_while PassesOwn.never (pt_cmpR op_gt (pe_callB call_len_seq (by rfl) T.b_len PySem.boot_len (pa_cons (pv 1) pa_nil)) pe_int (nomark _)) (pss_one (ps_par (i := 0) (j := 1) (by rfl) sc_divisor_of_rows.nd rfl rfl (by decide) rfl rfl (pa_cons (pv 1) (pa_cons (pe_ix ix_tup (pe_callH G_shared hr (by rfl) (pa_cons (pv 0) (pa_cons (pv 1) pa_nil))) pe_int (fun _ _ => rfl)) pa_nil)) (by rfl)))) (pss_one (ps_ret (pv 0)))), ?_⟩
    refine ⟨fun σ H' => ∃ v u, σ = [some v, some u] ∧ Same H H' ∧ IsI H' v d, ?_, fun σ H' hM => ?_⟩
    · refine ⟨fun n σ H' => ∃ v u l m, σ = [some v, some u] ∧ Same H H' ∧ IsI H' v l ∧ IsI H' u m ∧ Euc n l m d, ⟨n, v, u, l, m, rfl, Same.refl _, hv, hu, he⟩, fun n σ H' hW => ?_⟩
      obtain ⟨v, u, l, m, rfl, sm, hv, ⟨b, rfl, hb⟩, he⟩ := hW
      refine ⟨_, rfl, b, _, rfl, .inl (.of hb), _, _, rfl, rfl, _, rfl, ?_⟩
      rw [List.length_map]
      cases he with
      | nil => exact ifF (decide_eq_false (by decide)) ⟨v, .ref b, rfl, sm, hv⟩
      | @step n l m d ho hr =>
        have hm : 0 < m.length := List.length_pos_iff.mpr ho.1
        refine ifT (decide_eq_true (by omega)) ?_
        refine ⟨_, fun σ' H' hN => ⟨n, Nat.lt_succ_self n, hN⟩, ?_⟩
        refine ⟨_, rfl, _, rfl, _, rfl, v, .ref b, l, m, rfl, hv, ⟨b, rfl, hb⟩, ho, fun z H2 s2 hz => ?_⟩
        obtain ⟨p, x, y, rfl, ht, hx, hy⟩ := hz
        refine ⟨p, _, _, _, rfl, rfl, ht, atI_nat (j := 1) rfl, _, _, rfl, ?_⟩
        exact ⟨.ref b, y, m, _, rfl, sm.trans s2, ⟨b, rfl, s2 _ _ hb⟩, hy, hr⟩
    · obtain ⟨v, u, rfl, sm, hd⟩ := hM
      exact ⟨v, rfl, q v H' sm hd⟩
theorem h_signs_at (T : Txt K mg) {k : Nat} : Has P w K mg base "signs_at" ["row", "point"] (k + 1) (sp_signs_at K) := by
  refine has_of T.d_signs_at sc_signs_at (fun vs H Q E h => ?_) (fun f cdv A outer s H vs Q E hr h => ?_)
  · obtain ⟨v, u, l, r, rfl, _⟩ := h
    rfl
  · obtain ⟨v, u, l, r, rfl, ⟨a, rfl, hA⟩, ⟨p, rfl, ht⟩, ⟨hl, α, β, ba, bn, bd, hab, hb6⟩, q⟩ := h
    refine ⟨_, (pss_cons (ps_asg (pv 1) (pg_tup rfl (pgs_cons (pg_name (i := 2) sc_signs_at.nd rfl (.inl rfl)) (pgs_cons (pg_name (i := 3) sc_signs_at.nd rfl (.inl rfl)) pgs_nil)))) (pss_cons (ps_asg (pe_tup (pa_cons pe_int (pa_cons pe_int pa_nil))) (pg_tup rfl (pgs_cons (pg_name (i := 4) sc_signs_at.nd rfl (.inl rfl)) (pgs_cons (pg_name (i := 5) sc_signs_at.nd rfl (.inl rfl)) pgs_nil)))) (Evl.pss_cut (ps_for PassesOwn.never rfl (pi_list (pe_revL (pv 0))) (pg_name (i := 6) sc_signs_at.nd rfl (.inl rfl)) (pss_cons (ps_set (i := 4) sc_signs_at.nd rfl (.inl rfl) (pe_op op_add (pe_op op_mulX (pv 4) (pv 2)) (pe_op op_mulX (pv 6) (pv 5)))) (pss_one (ps_set (i := 5) sc_signs_at.nd rfl (.inl rfl) (pe_op op_mulX (pv 5) (pv 3)))))) (pss_one (ps_ret (pe_op op_sub (pe_callTy call_int1 (by rfl) T.b_int (by decide +kernel) (pa_cons (pe_cmpR op_gt (pv 4) pe_int (nomark _)) pa_nil)) (pe_callTy call_int1 (by rfl) T.b_int (by decide +kernel) (pa_cons (pe_cmpR op_lt (pv 4) pe_int (nomark _)) pa_nil)))))))), ?_⟩
    refine ⟨_, rfl, p, _, rfl, ht, rfl, _, _, rfl, _, _, rfl, rfl, ?_⟩
    refine ⟨by show 2 ≤ sizeLine; decide, fun z hz => ?_⟩
    have s1 := same_new (o := .tup [.int 0, .int 1]) hz
    refine ⟨z, _, rfl, .of upd_same, rfl, _, _, rfl, _, _, rfl, rfl, ?_⟩
    -- the loop
    refine ⟨fun σ H' => (∃ y x, σ = [some (.ref a), some (.ref p), some (.int r.num), some (.int (r.den : Int)), some (.int (hom r.num r.den l).1), y, x]) ∧ Same H H', ?_, fun σ H' hM => ?_⟩
    · refine ⟨_, rfl, a, _, rfl, .of (s1 _ _ hA), fun b hb => ?_⟩
      have s2 := s1.trans (same_new (o := .lst (l.map V.int).reverse) hb)
      refine ⟨b, rfl, ⟨_, .of upd_same⟩, for_list (xs := (l.map V.int).reverse) (fun i σ H' => (∃ x, σ = [some (.ref a), some (.ref p), some (.int r.num), some (.int (r.den : Int)), some (.int (hom r.num r.den (l.drop (l.length - i))).1), some (.int (hom r.num r.den (l.drop (l.length - i))).2), x]) ∧ Same (upd (upd H z (.tup [.int 0, .int 1])) b (.lst (l.map V.int).reverse)) H')
        ⟨⟨none, ?_⟩, Same.refl _⟩ (fun i σ H' _ h => .of (h.2 _ _ upd_same)) (fun i x σ H' hx h => ?_) (fun σ H' h => ?_)⟩
      · rw [Nat.sub_zero, List.drop_length]
        rfl
      · obtain ⟨⟨y, rfl⟩, sm⟩ := h
        have hi : i < l.length := by
          have := (List.getElem?_eq_some_iff.mp hx).1
          rw [List.length_reverse, List.length_map] at this
          exact this
        have hx' : x = .int l[l.length - 1 - i] := by
          rw [List.getElem?_reverse (by rw [List.length_map]; exact hi), List.length_map, get_int (List.getElem?_eq_getElem (show l.length - 1 - i < l.length by omega))] at hx
          exact (Option.some.inj hx).symm
        subst hx'
        have ed : l.drop (l.length - (i + 1)) = l[l.length - 1 - i] :: l.drop (l.length - i) := by
          rw [show l.length - (i + 1) = l.length - 1 - i by omega, List.drop_eq_getElem_cons (show l.length - 1 - i < l.length by omega)]
          congr 2
          omega
        have bsub : Bd (l.drop (l.length - i)) α := fun x hx => ba x (List.mem_of_mem_drop hx)
        have hbd := hom_bd (t := r.num) (b' := (r.den : Int)) (b := β) bn (by rw [Int.natAbs_natCast]; exact bd) _ bsub
        have ld : (l.drop (l.length - i)).length = i := by rw [List.length_drop]; omega
        rw [ld] at hbd
        have m1 : i * (β + 2) ≤ l.length * (β + 2) := Nat.mul_le_mul_right _ (by omega)
        have m2 : i * (β + 2) = i * β + i * 2 := Nat.mul_add _ _ _
        have k1 : Sm (hom r.num r.den (l.drop (l.length - i))).1 := sm_of hbd.1 (by omega)
        have k2 : Sm (hom r.num r.den (l.drop (l.length - i))).2 := sm_of hbd.2 (by omega)
        have k3 : Sm l[l.length - 1 - i] := ba.sm (by omega) (List.getElem_mem _)
        have k4 : Sm r.num := sm_of bn hb6
        have k5 : Sm (r.den : Int) := sm_of (by rw [Int.natAbs_natCast]; exact bd) hb6
        refine ⟨_, rfl, _, rfl, _, _, rfl, rfl, mul_sm k1 k4, _, rfl, _, rfl, _, _, rfl, rfl, mul_sm k3 k2, _, _, rfl, rfl, ?_⟩
        refine ⟨_, rfl, _, rfl, _, _, rfl, rfl, mul_sm k2 k5, ?_⟩
        refine ⟨⟨some (.int l[l.length - 1 - i]), ?_⟩, sm⟩
        rw [ed]
        rfl
      · obtain ⟨⟨y, rfl⟩, sm⟩ := h
        rw [List.length_reverse, List.length_map, Nat.sub_self, List.drop_zero]
        exact ⟨⟨_, _, rfl⟩, s2.trans sm⟩
    · obtain ⟨⟨y, x, rfl⟩, sm⟩ := hM
      refine ⟨_, rfl, _, _, rfl, rfl, .inr ⟨_, rfl, ?_⟩⟩
      refine ⟨_, rfl, _, _, rfl, rfl, .inr ⟨_, rfl, _, _, rfl, rfl, ?_⟩⟩
      have e : ((if decide ((0 : Int) < (hom r.num r.den l).1) = true then (1 : Int) else 0) - (if decide ((hom r.num r.den l).1 < 0) = true then (1 : Int) else 0)) = sgnAt l r := by
        unfold sgnAt
        rcases Int.lt_trichotomy (hom r.num r.den l).1 0 with h | h | h
        · rw [Int.sign_eq_neg_one_of_neg h, decide_eq_false (by omega), decide_eq_true h]; rfl
        · rw [h]; rfl
        · rw [Int.sign_eq_one_of_pos h, decide_eq_true h, decide_eq_false (by omega)]; rfl
      have q' := q _ sm
      rw [← e] at q'
      exact q'
end
end Kq

set_option Elab.async false
set_option linter.all false
set_option maxRecDepth 100000
set_option maxHeartbeats 4000000
/-! single_zeros, remainders, changes -/
namespace Kq
open PySem PySem.Spec PyProof.Rows L2
/-! ### plain -/
inductive Rem : Nat → List Int → List Int → List (List Int) → Prop where
  | stop {a b : List Int} (h : b.length ≤ 1) : Rem 0 a b []
  | brk {a b : List Int} (h : 1 < b.length) (o : ShOk a b) (e : (sh a b).2 = []) : Rem 0 a b []
  | step {n : Nat} {a b : List Int} {out : List (List Int)} (h : 1 < b.length) (o : ShOk a b) (e : (sh a b).2 ≠ []) (l : ((sh a b).2).length ≤ 500) (r : Rem n b ((sh a b).2.map fun x => -x) out) : Rem (n + 1) a b (((sh a b).2.map fun x => -x) :: out)
inductive RemS : List Int → List (List Int) → Prop where
  | one {l : List Int} (h : l.length ≤ 1) : RemS l [l]
  | more {l : List Int} {n : Nat} {out : List (List Int)} (h : 1 < l.length) (hl : l.length ≤ 500) (sm : ∀ x ∈ l, Sm x) (z : slope l ≠ []) (hn : n ≤ 500) (r : Rem n l (slope l) out) : RemS l (l :: slope l :: out)
def chg : List Int → Nat
  | x :: y :: r => (if x ≠ y then 1 else 0) + chg (y :: r)
  | _ => 0
def varAt (rows : List (List Int)) (q : Rat) : Nat := chg ((rows.map fun l => sgnAt l q).filter fun x => x ≠ 0)
def sp_remainders : Sp := fun vs H Q _ => ∃ (v : V) (l : List Int) (rows : List (List Int)), vs = [v] ∧ IsI H v l ∧ RemS l rows ∧ RetP (fun z H' => IsL (IsI H') H' z rows) H Q
def sp_changes (K : PySem.W.Frag) : Sp := fun vs H Q _ => ∃ (v u : V) (rows : List (List Int)) (r : Rat), vs = [v, u] ∧ IsL (IsI H) H v rows ∧ IsQ K H u r ∧ rows.length ≤ 1000 ∧ (∀ l ∈ rows, AtOk l r) ∧ RetV (.int (varAt rows r : Nat)) H Q
theorem isI_len {H : Hp} {p : Addr} {l : List Int} (h : IsI H (.ref p) l) : H p = some (.lst (l.map V.int)) := by
  obtain ⟨p', e, h⟩ := h
  cases e
  exact h
section
variable {P : Program} {w : World} {K : PySem.W.Frag} {mg : Str → Option Value} {base : Heap}
theorem h_single_zeros (T : Txt K mg) {k : Nat} (G_shared : Has P w K mg base "shared" ["row", "other"] k (sp_shared K)) (G_divisor_of_rows : Has P w K mg base "divisor_of_rows" ["row", "other"] k sp_divisor_of_rows) (G_slope_of : Has P w K mg base "slope_of" ["row"] k sp_slope_of) : Has P w K mg base "single_zeros" ["row"] (k + 1) sp_single_zeros := by
  refine has_of T.d_single_zeros sc_single_zeros (fun vs H Q E h => ?_) (fun f cdv A outer s H vs Q E hr h => ?_)
  · obtain ⟨v, l, f, rfl, _⟩ := h
    rfl
  · obtain ⟨v, l, fin, rfl, ⟨a, rfl, hA⟩, ⟨hl, f1, h1, hf1, hl1, ho, rfl⟩, q⟩ := h
    refine ⟨_, (Evl.pss_cut (ps_set (i := 1) sc_single_zeros.nd rfl (.inl rfl) (pe_ifExp (pt_cmpR op_gt (pe_callB call_len_seq (by rfl) T.b_len PySem.boot_len (pa_cons (pv 0) pa_nil)) pe_int (nomark _)) (pe_ix ix_tup (pe_callH G_shared hr (by rfl) (pa_cons (pv 0) (pa_cons (pe_callH G_divisor_of_rows hr (by rfl) (pa_cons (pv 0) (pa_cons (pe_callH G_slope_of hr (by rfl) (pa_cons (pv 0) pa_nil)) pa_nil))) pa_nil))) pe_int (fun _ _ => rfl)) (pv 0))) (Evl.pss_cut (ps_if (pt_cmpR op_eq (pe_ix ix_list (pv 1) pe_int (fun _ _ => rfl)) pe_int (nomark _)) (pss_one (ps_set (i := 1) sc_single_zeros.nd rfl (.inl rfl) (pe_slice sl_list (pv 1) (po_some pe_int) po_none))) pss_nil) (Evl.pss_cut (ps_if (pt_cmpR op_eq (pe_callB (cr_sum rfl) (by rfl) T.b_sum (by decide +kernel) (pa_cons (pv 1) pa_nil)) pe_int (nomark _)) (pss_one (ps_set (i := 1) sc_single_zeros.nd rfl (.inl rfl) (pe_ix ix_tup (pe_callH G_shared hr (by rfl) (pa_cons (pv 1) (pa_cons (pe_lst (pa_cons (pe_un un_neg pe_int) (pa_cons pe_int pa_nil))) pa_nil))) pe_int (fun _ _ => rfl)))) pss_nil) (pss_one (ps_ret (pv 1)))))), ?_⟩
    -- found
    refine ⟨fun σ H' => ∃ v, σ = [some (.ref a), some v] ∧ Same H H' ∧ IsI H' v f1, ?_, fun σ H1 hM => ?_⟩
    · refine ⟨_, rfl, a, _, rfl, .inl (.of hA), _, _, rfl, rfl, _, rfl, ?_⟩
      rw [List.length_map]
      cases h1 with
      | one h1 => exact ifF (decide_eq_false (by omega)) ⟨_, rfl, _, rfl, Same.refl _, ⟨a, rfl, hA⟩⟩
      | @more d n h1 sm e o =>
        refine ifT (decide_eq_true (by omega)) ?_
        refine ⟨_, rfl, _, rfl, _, rfl, _, l, rfl, ⟨a, rfl, hA⟩, by omega, sm, fun z H2 s2 hz => ?_⟩
        refine ⟨_, _, l, slope l, d, n, rfl, ⟨a, rfl, s2 _ _ hA⟩, hz, e, fun y H3 s3 hy => ?_⟩
        refine ⟨_, _, l, d, rfl, ⟨a, rfl, s3 _ _ (s2 _ _ hA)⟩, hy, o, fun x H4 s4 hx => ?_⟩
        obtain ⟨p, u1, u2, rfl, ht, hu1, hu2⟩ := hx
        refine ⟨p, _, 0, _, rfl, rfl, ht, atI_nat (j := 0) rfl, ?_⟩
        exact ⟨u1, rfl, s2.trans (s3.trans s4), hu1⟩
    obtain ⟨v, rfl, s1, ⟨p, rfl, hp⟩⟩ := hM
    -- without a zero at 0
    refine ⟨fun σ H' => ∃ v, σ = [some (.ref a), some v] ∧ Same H H' ∧ IsI H' v (noZero f1), ?_, fun σ H2 hM => ?_⟩
    · obtain ⟨x, r, rfl⟩ : ∃ x r, f1 = x :: r := by
        cases f1 with
        | nil => exact absurd rfl hf1
        | cons x r => exact ⟨x, r, rfl⟩
      refine ⟨_, rfl, p, _, 0, .int x, rfl, rfl, .of hp, atI_nat (j := 0) rfl, rfl, _, rfl, ?_⟩
      by_cases hx : x = 0
      · refine ifT (decide_eq_true (by rw [hx])) ?_
        refine ⟨_, rfl, 1, rfl, p, _, rfl, .of hp, fun p2 hp2 => ?_⟩
        rw [cut_drop, ← List.map_drop]
        refine ⟨_, rfl, s1.trans (same_new hp2), p2, rfl, ?_⟩
        rw [upd_same, show noZero (x :: r) = (x :: r).drop 1 from if_pos (by rw [hx]; rfl)]
      · refine ifF (decide_eq_false (fun z => hx (V.int.inj z))) ⟨_, rfl, s1, p, rfl, ?_⟩
        rw [show noZero (x :: r) = x :: r from if_neg (fun z => hx (Option.some.inj z))]
        exact hp
    obtain ⟨v, rfl, s2, ⟨p2, rfl, hp2⟩⟩ := hM
    -- without a zero at 1
    refine ⟨fun σ H' => ∃ v, σ = [some (.ref a), some v] ∧ Same H H' ∧ IsI H' v (noOne (noZero f1)), ?_, fun σ H3 hM => ?_⟩
    · refine ⟨_, rfl, p2, _, rfl, .of hp2, rfl, _, rfl, ?_⟩
      by_cases hx : (noZero f1).sum = 0
      · refine ifT (decide_eq_true (by rw [hx])) ?_
        refine ⟨_, rfl, 1, rfl, by show 2 ≤ sizeLine; decide, fun p3 hp3 => ?_⟩
        have s3 := same_new (o := .lst [.int (-1), .int 1]) hp3
        refine ⟨_, _, noZero f1, [-1, 1], rfl, ⟨p2, rfl, s3 _ _ hp2⟩, ⟨p3, rfl, upd_same⟩, ho hx, fun x H4 s4 hx4 => ?_⟩
        obtain ⟨p4, u1, u2, rfl, ht, hu1, hu2⟩ := hx4
        refine ⟨p4, _, 0, _, rfl, rfl, ht, atI_nat (j := 0) rfl, ?_⟩
        refine ⟨u1, rfl, s2.trans (s3.trans s4), ?_⟩
        rw [show noOne (noZero f1) = (sh (noZero f1) [-1, 1]).1 from if_pos hx]
        exact hu1
      · refine ifF (decide_eq_false (fun z => hx (V.int.inj z))) ⟨_, rfl, s2, p2, rfl, ?_⟩
        rw [show noOne (noZero f1) = noZero f1 from if_neg hx]
        exact hp2
    obtain ⟨v, rfl, s3, hv⟩ := hM
    exact ⟨_, rfl, q _ _ s3 hv⟩
theorem pairedI_mono {H H' : Hp} (e : Same H H') {vs : List V} {ls : List (List Int)} (h : Paired (IsI H) vs ls) : Paired (IsI H') vs ls := paired_mono h fun _ _ r => r.mono e
/-- the lists of ints stay when the list of them grows -/
theorem pairedI_grow {H : Hp} {F : Addr} {ws ws' : List V} {v0 : Addr} (hF : H F = some (.lst (.ref v0 :: ws))) {vs : List V} {ls : List (List Int)} (h : Paired (IsI H) vs ls) : Paired (IsI (upd H F (.lst ws'))) vs ls :=
  paired_mono h fun v l r => by
    obtain ⟨p, rfl, hp⟩ := r
    refine ⟨p, rfl, ?_⟩
    rw [upd_ne]
    · exact hp
    · rintro rfl
      rw [hF] at hp
      cases l with
      | nil => cases hp
      | cons x r => cases hp
theorem paired_refs {H : Hp} {v : V} {vs : List V} {ls : List (List Int)} (h : Paired (IsI H) (v :: vs) ls) : ∃ p, v = .ref p := by
  cases h with
  | cons r t =>
    obtain ⟨p, e, _⟩ := r
    exact ⟨p, e⟩
theorem atI_last2 {xs : List V} {u v : V} : atI (xs ++ [u, v]) (-2) = some u := by
  unfold atI ixN
  rw [if_neg (by decide), if_pos (by rw [List.length_append]; show -((xs.length + 2 : Nat) : Int) ≤ -2; omega)]
  show (xs ++ [u, v])[((-2 : Int) + ((xs ++ [u, v]).length : Nat)).toNat]? = _
  rw [show ((-2 : Int) + ((xs ++ [u, v]).length : Nat)).toNat = xs.length by rw [List.length_append]; show ((-2 : Int) + ((xs.length + 2 : Nat) : Int)).toNat = _; omega]
  simp
theorem paired_app_inv {R : V → α → Prop} : ∀ {xs : List α} {ys : List α} {vs : List V}, Paired R vs (xs ++ ys) → ∃ v1 v2, vs = v1 ++ v2 ∧ Paired R v1 xs ∧ Paired R v2 ys
  | [], _, vs, h => ⟨[], vs, rfl, .nil, h⟩
  | x :: xs, ys, _, .cons r t => by
    obtain ⟨v1, v2, rfl, h1, h2⟩ := paired_app_inv (xs := xs) t
    exact ⟨_ :: v1, v2, rfl, .cons r h1, h2⟩
theorem h_remainders (T : Txt K mg) {k : Nat} (G_slope_of : Has P w K mg base "slope_of" ["row"] k sp_slope_of) (G_shared : Has P w K mg base "shared" ["row", "other"] k (sp_shared K)) : Has P w K mg base "remainders" ["row"] (k + 1) sp_remainders := by
  refine has_of T.d_remainders sc_remainders (fun vs H Q E h => ?_) (fun f cdv A outer s H vs Q E hr h => ?_)
  · obtain ⟨v, l, rows, rfl, _⟩ := h
    rfl
  · obtain ⟨v, l, rows, rfl, ⟨a, rfl, hA⟩, hR, q⟩ := h
    refine ⟨_, (Evl.pss_cut (ps_set (i := 1) sc_remainders.nd rfl (.inl rfl) (pe_ifExp (pt_cmpR op_gt (pe_callB call_len_seq (by rfl) T.b_len PySem.boot_len (pa_cons (pv 0) pa_nil)) pe_int (nomark _)) (pe_lst (pa_cons (pv 0) (pa_cons (pe_callH G_slope_of hr (by rfl) (pa_cons (pv 0) pa_nil)) pa_nil))) (pe_lst (pa_cons (pv 0) pa_nil)))) (Evl.pss_cut (ps_while PassesOwn.never (pt_cmpR op_gt (pe_callB call_len_seq (by rfl) T.b_len PySem.boot_len (pa_cons (pe_ix ix_list (pv 1) (pe_un un_neg pe_int) (fun _ _ => rfl)) pa_nil)) pe_int (nomark _)) (pss_cons (ps_set (i := 2) sc_remainders.nd rfl (.inl rfl) (pe_ix ix_tup (pe_callH G_shared hr (by rfl) (pa_cons (pe_ix ix_list (pv 1) (pe_un un_neg pe_int) (fun _ _ => rfl)) (pa_cons (pe_ix ix_list (pv 1) (pe_un un_neg pe_int) (fun _ _ => rfl)) pa_nil))) pe_int (fun _ _ => rfl))) (Evl.pss_cut (ps_if (pt_cmpR op_eq (pe_callB call_len_seq (by rfl) T.b_len PySem.boot_len (pa_cons (pv 2) pa_nil)) pe_int (nomark _)) (pss_one ps_break) pss_nil) (pss_one (ps_expr (pe_bm PySem.F.plainAttrs_list PySem.F.slot_list_append PySem.F.type_list_append mt_append (pv 1) (pa_cons (pe_lc (own := [("number", 3)]) (g := (gName 3)) rfl sc_remainders.nd (pi_list (pv 2)) (blkOk_by (own := [("number", 3)]) (N := ["row", "found", "rest", "number"]) (sc := defScope s_remainders) (by decide +kernel)) (fun _ _ _ _ _ => (pg_name (i := 3) sc_remainders.nd rfl (.inl rfl) (hf := .inr rfl))) (fun _ _ _ _ _ => pts_nil) (fun _ _ _ _ _ => (pe_un un_neg (pv 3)))) pa_nil))))))) (pss_one (ps_ret (pv 1))))), ?_⟩
    cases hR with
    | one h1 =>
      refine ⟨fun σ H' => ∃ F, σ = [some (.ref a), some (.ref F), none, none] ∧ Same H H' ∧ H' F = some (.lst [.ref a]), ?_, fun σ H1 hM => ?_⟩
      · refine ⟨_, rfl, a, _, rfl, .inl (.of hA), _, _, rfl, rfl, _, rfl, ?_⟩
        rw [List.length_map]
        refine ifF (decide_eq_false (by omega)) ?_
        exact ⟨_, rfl, by show 1 ≤ sizeLine; decide, fun p hp => ⟨p, rfl, same_new hp, upd_same⟩⟩
      obtain ⟨F, rfl, s1, hF⟩ := hM
      refine ⟨fun σ H' => σ = [some (.ref a), some (.ref F), none, none] ∧ Same H1 H', ?_, fun σ H2 hM => ?_⟩
      · refine ⟨fun _ σ H' => σ = [some (.ref a), some (.ref F), none, none] ∧ Same H1 H', ⟨0, rfl, Same.refl _⟩, fun m σ H' hW => ?_⟩
        obtain ⟨rfl, s2⟩ := hW
        refine ⟨_, rfl, _, rfl, F, _, _, _, rfl, rfl, .of (s2 _ _ hF), atI_last [] _, a, _, rfl, .inl (.of (s2 _ _ (s1 _ _ hA))), _, _, rfl, rfl, _, rfl, ?_⟩
        rw [List.length_map]
        exact ifF (decide_eq_false (by omega)) ⟨rfl, s2⟩
      obtain ⟨rfl, s2⟩ := hM
      exact ⟨_, rfl, q _ _ (s1.trans s2) ⟨F, [.ref a], rfl, s2 _ _ hF, .cons ⟨a, rfl, s2 _ _ (s1 _ _ hA)⟩ .nil⟩⟩
    | @more n out h1 hl sm hz hn hr =>
      refine ⟨fun σ H' => ∃ F b, σ = [some (.ref a), some (.ref F), none, none] ∧ Same H H' ∧ H F = none ∧ H' F = some (.lst [.ref a, .ref b]) ∧ IsI H' (.ref b) (slope l), ?_, fun σ H1 hM => ?_⟩
      · refine ⟨_, rfl, a, _, rfl, .inl (.of hA), _, _, rfl, rfl, _, rfl, ?_⟩
        rw [List.length_map]
        refine ifT (decide_eq_true (by omega)) ?_
        refine ⟨_, rfl, _, rfl, _, l, rfl, ⟨a, rfl, hA⟩, by omega, sm, fun z H2 s2 hz => ?_⟩
        obtain ⟨b, rfl, hb⟩ := hz
        exact ⟨by show 2 ≤ sizeLine; decide, fun p hp => ⟨p, b, rfl, s2.trans (same_new hp), s2.free hp, upd_same, b, rfl, same_new hp _ _ hb⟩⟩
      obtain ⟨F, b, rfl, s1, nF, hF, hb⟩ := hM
      refine ⟨fun σ H' => ∃ y x ws, σ = [some (.ref a), some (.ref F), y, x] ∧ Same H H' ∧ H' F = some (.lst ws) ∧ Paired (IsI H') ws (l :: slope l :: out), ?_, fun σ H2 hM => ?_⟩
      · -- done: the rows so far, the last two of them x and y; o: what is left to come
        refine ⟨fun m σ H' => ∃ (y x : Option V) (ws : List V) (done o : List (List Int)) (r1 r2 : List Int), σ = [some (.ref a), some (.ref F), y, x] ∧ Same H H' ∧ H' F = some (.lst ws) ∧ Paired (IsI H') ws (done ++ [r1, r2]) ∧ Rem m r1 r2 o ∧
          done ++ [r1, r2] ++ o = l :: slope l :: out ∧ done.length + m ≤ 500, ⟨n, _, _, _, [], out, l, slope l, rfl, s1, hF, .cons ⟨a, rfl, s1 _ _ hA⟩ (.cons hb .nil), hr, rfl, by show 0 + n ≤ 500; omega⟩, fun m σ H' hW => ?_⟩
        obtain ⟨y, x, ws, done, o, r1, r2, rfl, sm', hF', hP, hrem, hall, hlen⟩ := hW
        obtain ⟨w1, w2, rfl, hP1, hP2⟩ := paired_app_inv hP
        cases hP2 with
        | @cons u1 w2 _ _ i1 t =>
        cases t with
        | @cons u2 w3 _ _ i2 t2 =>
        cases t2
        have ew : w1 ++ [u1, u2] = (w1 ++ [u1]) ++ [u2] := by rw [List.append_assoc]; rfl
        have g1 : atI (w1 ++ [u1, u2]) (-1) = some u2 := by rw [ew]; exact atI_last _ _
        have g2 : atI (w1 ++ [u1, u2]) (-2) = some u1 := atI_last2
        have lw : w1.length = done.length := hP1.length
        obtain ⟨p2, e2, hp2⟩ := id i2
        refine ⟨_, rfl, _, rfl, F, _, _, _, rfl, rfl, .of hF', g1, p2, _, by rw [e2], .inl (.of hp2), _, _, rfl, rfl, _, rfl, ?_⟩
        rw [List.length_map]
        have stopD : o = [] → ∃ y' x' ws, [some (V.ref a), some (.ref F), y, x] = [some (V.ref a), some (.ref F), y', x'] ∧ Same H H' ∧ H' F = some (.lst ws) ∧ Paired (IsI H') ws (l :: slope l :: out) := fun e => by
          subst e
          rw [List.append_nil] at hall
          rw [hall] at hP
          exact ⟨_, _, _, rfl, sm', hF', hP⟩
        by_cases hlt : 1 < r2.length
        · refine ifT (decide_eq_true (by omega)) ?_
          have ho : ShOk r1 r2 := by cases hrem with
            | stop h => omega
            | brk _ o _ => exact o
            | step _ o _ _ _ => exact o
          refine ⟨_, fun σ' H'' hN => hN, ?_⟩
          refine ⟨_, rfl, _, rfl, F, _, _, _, rfl, rfl, .of hF', g2, _, rfl, _, rfl, F, _, _, _, rfl, rfl, .of hF', g1, u1, u2, r1, r2, rfl, i1, i2, ho, fun z H3 s3 hz' => ?_⟩
          obtain ⟨p, x1, x2, rfl, ht, hx1, ⟨c, rfl, hc⟩⟩ := hz'
          refine ⟨p, _, 1, _, rfl, rfl, ht, atI_nat (j := 1) rfl, ?_⟩
          have hF3 := s3 _ _ hF'
          have hP3 := pairedI_mono s3 hP
          have lw2 : (w1 ++ [u1, u2]).length ≤ 600 := by rw [List.length_append]; show w1.length + 2 ≤ 600; omega
          by_cases he : (sh r1 r2).2 = []
          · -- break
            refine ⟨fun _ _ => False, ?_, fun _ _ h => h.elim⟩
            refine ⟨_, rfl, c, _, rfl, .inl (.of hc), rfl, _, rfl, ?_⟩
            refine ifT (by rw [he]; rfl) ?_
            cases hrem with
            | stop h => omega
            | brk _ _ _ =>
              rw [List.append_nil] at hall
              rw [hall] at hP3
              exact ⟨_, _, _, rfl, sm'.trans s3, hF3, hP3⟩
            | step _ _ e _ _ => exact absurd he e
          · refine ⟨fun σ H4 => σ = [some (.ref a), some (.ref F), some (.ref c), x] ∧ H4 = H3, ?_, fun σ H4 hM => ?_⟩
            · refine ⟨_, rfl, c, _, rfl, .inl (.of hc), rfl, _, rfl, ?_⟩
              refine ifF (decide_eq_false (fun z => he (List.eq_nil_of_length_eq_zero ?_))) ⟨rfl, rfl⟩
              have z' := V.int.inj z
              rw [List.length_map] at z'
              omega
            obtain ⟨rfl, rfl⟩ := hM
            cases hrem with
            | stop h => omega
            | brk _ _ e => exact absurd e he
            | @step m _ _ o' h o e lz r =>
              refine ⟨_, rfl, .inl ⟨rfl, _, .of hF3⟩, ?_⟩
              refine ⟨_, rfl, c, rfl, ⟨_, .of hc⟩, fun D hD => lcL (xs := (sh r1 r2).2.map V.int) (fun i v _ => ∃ x : Int, ((sh r1 r2).2.map fun x => -x)[i]? = some x ∧ v = .int x) (by rw [List.length_map]; omega) hD hc (fun _ _ _ _ _ h => h) (fun i x H' hx s4 Qk Nx k => ?_) (fun H5 ws5 s5 hW5 hl5 hv5 => ?_)⟩
              · rw [List.getElem?_map] at hx
                obtain ⟨z, ez, rfl⟩ := Option.map_eq_some_iff.mp hx
                refine yesE rfl ?_
                refine ⟨_, rfl, _, rfl, ?_⟩
                refine k _ _ (Same.refl _) ⟨_, ?_, rfl⟩
                rw [List.getElem?_map, ez]
                rfl
              · rw [ints_of (ys := (sh r1 r2).2.map fun x => -x) (by rw [hl5, List.length_map, List.length_map]) hv5] at hW5
                have hF5 := s5 _ _ hF3
                have hP5 := pairedI_mono s5 hP3
                refine ⟨F, _, _, rfl, rfl, hF5, Nat.lt_of_le_of_lt lw2 (by decide), ?_⟩
                have nFD : F ≠ D := ne_of_none hF3 hD
                obtain ⟨u0, wr, e0⟩ : ∃ u0 wr, w1 ++ [u1, u2] = u0 :: wr := by
                  cases w1 with
                  | nil => exact ⟨_, _, rfl⟩
                  | cons z zs => exact ⟨_, _, rfl⟩
                obtain ⟨q0, rfl⟩ : ∃ q0, u0 = .ref q0 := by
                  rw [e0] at hP5
                  exact paired_refs hP5
                have hF5' : H5 F = some (.lst (.ref q0 :: wr)) := by rw [hF5, e0]
                refine ⟨m, Nat.lt_succ_self m, _, _, _, done ++ [r1], o', r2, (sh r1 r2).2.map fun x => -x, rfl, same_mut ((sm'.trans s3).trans s5) nF, upd_same, ?_, r, ?_, ?_⟩
                · have hall5 : Paired (IsI H5) ((w1 ++ [u1, u2]) ++ [V.ref D]) ((done ++ [r1, r2]) ++ [(sh r1 r2).2.map fun x => -x]) := paired_snoc hP5 ⟨D, rfl, hW5⟩
                  have := pairedI_grow (ws' := w1 ++ [u1, u2] ++ [V.ref D]) hF5' hall5
                  rw [show done ++ [r1] ++ [r2, (sh r1 r2).2.map fun x => -x] = (done ++ [r1, r2]) ++ [(sh r1 r2).2.map fun x => -x] by simp]
                  exact this
                · rw [← hall]
                  simp
                · rw [List.length_append]
                  show done.length + 1 + m ≤ 500
                  omega
        · refine ifF (decide_eq_false (by omega)) ?_
          cases hrem with
          | stop h => exact stopD rfl
          | brk h _ _ => omega
          | step h _ _ _ _ => omega
      obtain ⟨y, x, ws, rfl, s2, hF2, hP2⟩ := hM
      exact ⟨_, rfl, q _ _ s2 ⟨F, ws, rfl, hF2, hP2⟩⟩
end
end Kq

set_option Elab.async false
set_option linter.all false
set_option maxRecDepth 100000
set_option maxHeartbeats 4000000
/-! changes, cut_between -/
namespace Kq
open PySem PySem.Spec PyProof.Rows L2
/-! ### plain -/
def dl : List Int → List Int
  | x :: y :: r => (if x ≠ y then 1 else 0) :: dl (y :: r)
  | _ => []
theorem dl_sum : ∀ l : List Int, (dl l).sum = (chg l : Int)
  | [] => rfl
  | [_] => rfl
  | x :: y :: r => by
    show ((if x ≠ y then (1 : Int) else 0) :: dl (y :: r)).sum = (((if x ≠ y then 1 else 0) + chg (y :: r) : Nat) : Int)
    rw [List.sum_cons, dl_sum (y :: r), Int.natCast_add]
    split <;> rfl
theorem dl_len : ∀ l : List Int, (dl l).length = l.length - 1
  | [] => rfl
  | [_] => rfl
  | x :: y :: r => by
    show (dl (y :: r)).length + 1 = (y :: r).length + 1 - 1
    rw [dl_len (y :: r)]
    show (r.length + 1 - 1) + 1 = r.length + 1 + 1 - 1
    omega
theorem dl_get : ∀ (l : List Int) (i : Nat) (x y : Int), l[i]? = some x → l[i + 1]? = some y → (dl l)[i]? = some (if x ≠ y then 1 else 0)
  | [], _, _, _, h, _ => by simp at h
  | [_], 0, _, _, _, h => by simp at h
  | [_], i + 1, _, _, h, _ => by simp at h
  | a :: b :: r, 0, x, y, h, h2 => by
    have e1 : a = x := Option.some.inj h
    have e2 : b = y := Option.some.inj h2
    rw [← e1, ← e2]
    rfl
  | a :: b :: r, i + 1, x, y, h, h2 => dl_get (b :: r) i x y h h2
/-- a point between two others -/
def ptOf (lo hi : Rat) (part : Int) : Rat := Rat.divInt (lo.num * (hi.den : Int) * (part - 1) + hi.num * (lo.den : Int)) ((lo.den : Int) * (hi.den : Int) * part)
structure CB (l : List Int) (lo hi p : Rat) (k : Nat) : Prop where
  pt : p = ptOf lo hi ((k : Int) + 2)
  zero : ∀ j : Nat, j < k → sgnAt l (ptOf lo hi ((j : Int) + 2)) = 0
  non : sgnAt l p ≠ 0
  ok : ∀ j : Nat, j ≤ k → AtOk l (ptOf lo hi ((j : Int) + 2))
  few : k ≤ 1000
  n1 : lo.num.natAbs < 2 ^ 10000
  n2 : hi.num.natAbs < 2 ^ 10000
  n3 : lo.den < 2 ^ 10000
  n4 : hi.den < 2 ^ 10000
def sp_cut_between (K : PySem.W.Frag) : Sp := fun vs H Q _ => ∃ (v u t : V) (l : List Int) (lo hi p : Rat) (k : Nat), vs = [v, u, t] ∧ IsI H v l ∧ IsQ K H u lo ∧ IsQ K H t hi ∧ CB l lo hi p k ∧ RetP (fun z H' => IsQ K H' z p) H Q
section
variable {P : Program} {w : World} {K : PySem.W.Frag} {mg : Str → Option Value} {base : Heap}
theorem h_changes (T : Txt K mg) {k : Nat} (G_signs_at : Has P w K mg base "signs_at" ["row", "point"] k (sp_signs_at K)) : Has P w K mg base "changes" ["rows", "point"] (k + 1) (sp_changes K) := by
  refine has_of T.d_changes sc_changes (fun vs H Q E h => ?_) (fun f cdv A outer s H vs Q E hr h => ?_)
  · obtain ⟨v, u, rows, r, rfl, _⟩ := h
    rfl
  · obtain ⟨v, u, rows, r, rfl, ⟨F, ws, rfl, hF, hP⟩, hu, hlen, hok, q⟩ := h
    have lws : ws.length = rows.length := hP.length
    refine ⟨_, (pss_cons (ps_setLc (i := 2) (own := [("sign", 3)]) (g := (gName 3)) rfl sc_changes.nd rfl rfl (sw_true rfl rfl rfl (by decide +kernel)) (pi_list (pe_lc (own := [("row", 6)]) (g := (gName 6)) rfl sc_changes.nd (pi_list (pv 0)) (blkOk_by (own := [("row", 6)]) (N := ["rows", "point", "signs", "sign", "one", "other", "row"]) (sc := defScope s_changes) (by decide +kernel)) (fun _ _ _ _ _ => (pg_name (i := 6) sc_changes.nd rfl (.inl rfl) (hf := .inr rfl))) (fun _ _ _ _ _ => pts_nil) (fun _ _ _ _ _ => (pe_callH G_signs_at hr (by rfl) (pa_cons (pv 6) (pa_cons (pv 1) pa_nil)))))) (blkOk_by (own := [("sign", 3)]) (N := ["rows", "point", "signs", "sign", "one", "other", "row"]) (sc := defScope s_changes) (by decide +kernel)) (fun _ _ _ _ _ => (pg_name (i := 3) sc_changes.nd rfl (.inl rfl) (hf := .inr rfl))) (fun _ _ _ _ _ => (pts_one (pt_cmpR op_ne (pv 3) pe_int (nomark _)))) (fun _ _ _ _ _ => (pv 3))) (pss_one (ps_ret (pe_callB (cr_sum rfl) (by rfl) T.b_sum (by decide +kernel) (pa_cons (pe_lc (own := [("one", 4), ("other", 5)]) (g := (gTup K 2 (gCons (gName 4) (gCons (gName 5) gNil)))) rfl sc_changes.nd (pi_zip (by rfl) T.b_zip (pa_cons (pv 2) (pa_cons (pe_slice sl_list (pv 2) (po_some pe_int) po_none) pa_nil))) (blkOk_by (own := [("one", 4), ("other", 5)]) (N := ["rows", "point", "signs", "sign", "one", "other", "row"]) (sc := defScope s_changes) (by decide +kernel)) (fun _ _ _ _ _ => (pg_tup rfl (pgs_cons (pg_name (i := 4) sc_changes.nd rfl (.inl rfl) (hf := .inr rfl)) (pgs_cons (pg_name (i := 5) sc_changes.nd rfl (.inl rfl) (hf := .inr rfl)) pgs_nil)))) (fun _ _ _ _ _ => pts_nil) (fun _ _ _ _ _ => (pe_callTy call_int1 (by rfl) T.b_int (by decide +kernel) (pa_cons (pe_cmpR op_ne (pv 4) (pv 5) (nomark _)) pa_nil)))) pa_nil))))), ?_⟩
    -- the signs
    refine ⟨_, rfl, F, rfl, ⟨_, .of hF⟩, fun D hD => lcL (xs := ws) (fun i v _ => ∃ x : Int, (rows.map fun l => sgnAt l r)[i]? = some x ∧ v = .int x) (by omega) hD hF (fun _ _ _ _ _ h => h) (fun i x H' hx s4 Qk Nx k => ?_) (fun H1 ws1 s1 hW1 hl1 hv1 => ?_)⟩
    · obtain ⟨l, el, hl⟩ := paired_get hP hx
      refine yesE rfl ?_
      refine ⟨_, rfl, _, rfl, _, _, l, r, rfl, hl.mono s4, hu.mono s4, hok l (List.mem_of_getElem? el), fun H5 s5 => ?_⟩
      refine k _ _ s5 ⟨_, ?_, rfl⟩
      rw [List.getElem?_map, el]
      rfl
    rw [ints_of (ys := rows.map fun l => sgnAt l r) (by rw [hl1, List.length_map, lws]) hv1] at hW1
    generalize hsg : (rows.map fun l => sgnAt l r) = sg at hW1
    have lsg : sg.length ≤ 1000 := by rw [← hsg, List.length_map]; omega
    refine ⟨D, rfl, ⟨_, .of hW1⟩, fun D2 hD2 => lc_list (xs := sg.map V.int) (fun i H' => Same H1 H' ∧ H' D2 = some (.lst (((sg.take i).filter fun x => x ≠ 0).map V.int))) ⟨same_new hD2, upd_same⟩ (fun i H' _ h => .of (h.1 _ _ hW1)) (fun i x H' hx h => ?_) (fun H2 h => ?_)⟩
    · obtain ⟨s2, e2⟩ := h
      rw [List.getElem?_map] at hx
      obtain ⟨z, ez, rfl⟩ := Option.map_eq_some_iff.mp hx
      refine ⟨rfl, _, rfl, rfl, _, rfl, ?_⟩
      have etk : sg.take (i + 1) = sg.take i ++ [z] := by rw [List.take_add_one, ez]; rfl
      by_cases h0 : z = 0
      · refine ifF (by rw [h0]; rfl) ⟨s2, ?_⟩
        rw [e2, etk, List.filter_append, h0]
        simp
      · refine ifT (by rw [decide_eq_false (fun e => h0 (V.int.inj e))]; rfl) ?_
        refine ⟨_, rfl, _, e2, ?_, same_mut s2 hD2, ?_⟩
        · rw [List.length_map]
          have h1 : ((sg.take i).filter fun x => x ≠ 0).length ≤ 1000 := Nat.le_trans (List.length_filter_le _ _) (Nat.le_trans (by rw [List.length_take]; exact Nat.min_le_right _ _) lsg)
          exact small1000 h1
        · rw [upd_same, etk, List.filter_append]
          simp [h0]
    obtain ⟨s2, e2⟩ := h
    rw [List.length_map, List.take_length] at e2
    generalize hfl : (sg.filter fun x => x ≠ 0) = fl at e2
    have lfl : fl.length ≤ 1000 := by rw [← hfl]; exact Nat.le_trans (List.length_filter_le _ _) lsg
    have sH2 : Same H H2 := s1.trans s2
    -- how often they change
    refine ⟨_, rfl, _, rfl, 1, rfl, D2, _, rfl, .of e2, fun p hp => ?_⟩
    rw [cut_drop, ← List.map_drop]
    have s3 := same_new (o := .lst ((fl.drop 1).map V.int)) hp
    refine ⟨D2, p, _, _, rfl, .of (s3 _ _ e2), .of upd_same, fun D3 hD3 => lcZ (xs := fl.map V.int) (ys := (fl.drop 1).map V.int) (n := fl.length - 1) (fun i v _ => ∃ x : Int, (dl fl)[i]? = some x ∧ v = .int x) (by omega) (by rw [List.length_map, List.length_map, List.length_drop]; omega) hD3 (s3 _ _ e2) upd_same (fun _ _ _ _ _ h => h)
      (fun i x y T' H' hx hy s4 hT Qk Nx k => ?_) (fun H3 ws3 s4 hW3 hl3 hv3 => ?_)⟩
    · rw [List.getElem?_map] at hx hy
      obtain ⟨z1, ez1, rfl⟩ := Option.map_eq_some_iff.mp hx
      obtain ⟨z2, ez2, rfl⟩ := Option.map_eq_some_iff.mp hy
      rw [List.getElem?_drop, Nat.add_comm] at ez2
      refine ⟨T', _, rfl, .of hT, rfl, _, _, rfl, _, _, rfl, rfl, ?_⟩
      refine yesE rfl ?_
      refine ⟨_, rfl, _, rfl, rfl, .inr ⟨_, rfl, ?_⟩⟩
      refine k _ _ (Same.refl _) ⟨_, dl_get fl i z1 z2 ez1 ez2, ?_⟩
      by_cases e : z1 = z2
      · simp [e]
      · simp [e]
    · rw [ints_of (ys := dl fl) (by rw [hl3, dl_len]) hv3] at hW3
      refine ⟨D3, _, rfl, .of hW3, ?_⟩
      rw [dl_sum]
      have e : chg fl = varAt rows r := by
        unfold varAt
        rw [hsg, hfl]
      rw [e]
      exact q _ (sH2.trans (s3.trans s4))
theorem h_cut_between (T : Txt K mg) {k : Nat} (G_lowest : Has P w K mg base "lowest" ["top", "bottom"] k sp_lowest) (G_signs_at : Has P w K mg base "signs_at" ["row", "point"] k (sp_signs_at K)) : Has P w K mg base "cut_between" ["row", "low", "high"] (k + 1) (sp_cut_between K) := by
  refine has_of T.d_cut_between sc_cut_between (fun vs H Q E h => ?_) (fun f cdv A outer s H vs Q E hr h => ?_)
  · obtain ⟨v, u, t, l, lo, hi, p, n, rfl, _⟩ := h
    rfl
  · obtain ⟨v, u, t, l, lo, hi, p, n, rfl, ⟨a, rfl, hA⟩, ⟨b, rfl, hB⟩, ⟨c, rfl, hC⟩, cb, q⟩ := h
    refine ⟨_, (pss_cons (ps_set (i := 3) sc_cut_between.nd rfl (.inl rfl) pe_int) (pss_one (ps_while PassesOwn.never (pt_val pe_bl) (pss_cons (ps_set (i := 4) sc_cut_between.nd rfl (.inl rfl) (pe_op op_add (pe_op op_mulX (pe_op op_mulX (pe_ix ix_tup (pv 1) pe_int (fun _ _ => rfl)) (pe_ix ix_tup (pv 2) pe_int (fun _ _ => rfl))) (pe_op op_sub (pv 3) pe_int)) (pe_op op_mulX (pe_ix ix_tup (pv 2) pe_int (fun _ _ => rfl)) (pe_ix ix_tup (pv 1) pe_int (fun _ _ => rfl))))) (pss_cons (ps_set (i := 5) sc_cut_between.nd rfl (.inl rfl) (pe_callH G_lowest hr (by rfl) (pa_cons (pv 4) (pa_cons (pe_op op_mulX (pe_op op_mulX (pe_ix ix_tup (pv 1) pe_int (fun _ _ => rfl)) (pe_ix ix_tup (pv 2) pe_int (fun _ _ => rfl))) (pv 3)) pa_nil)))) (Evl.pss_cut (ps_if (pt_cmpR op_ne (pe_callH G_signs_at hr (by rfl) (pa_cons (pv 0) (pa_cons (pv 5) pa_nil))) pe_int (nomark _)) (pss_one (ps_ret (pv 5))) pss_nil) (pss_one (ps_aug (i := 3) sc_cut_between.nd rfl (.inl rfl) pe_int ip_add)))))))), ?_⟩
    refine ⟨fun m σ H' => ∃ (j : Nat) (y4 y5 : Option V), σ = [some (.ref a), some (.ref b), some (.ref c), some (.int ((j : Int) + 2)), y4, y5] ∧ j ≤ n ∧ m = n - j ∧ Same H H', ⟨n, 0, _, _, rfl, Nat.zero_le _, rfl, Same.refl _⟩, fun m σ H' hW => ?_⟩
    obtain ⟨j, y4, y5, rfl, hj, rfl, sm⟩ := hW
    refine ⟨true, rfl, ?_⟩
    refine iteT ?_
    refine ⟨_, fun σ' H'' hN => hN, ?_⟩
    have hB' := Same.t sm hB
    have hC' := Same.t sm hC
    have k1 := cb.n1
    have k2 := cb.n2
    have k3 : ((lo.den : Int)).natAbs < 2 ^ 10000 := by rw [Int.natAbs_natCast]; exact cb.n3
    have k4 : ((hi.den : Int)).natAbs < 2 ^ 10000 := by rw [Int.natAbs_natCast]; exact cb.n4
    have kj : Sm ((j : Int) + 2 - 1) := sm_small (by have := cb.few; omega)
    have kj2 : Sm ((j : Int) + 2) := sm_small (by have := cb.few; omega)
    have w1 : Sm (lo.num * (hi.den : Int)) := sm_of (lt_pow_add k1 k4) (by decide)
    have w2 : Sm ((lo.den : Int) * (hi.den : Int)) := sm_of (lt_pow_add k3 k4) (by decide)
    refine ⟨_, rfl, b, _, 0, _, rfl, rfl, hB', atI_nat (j := 0) rfl, _, rfl, c, _, 1, _, rfl, rfl, hC', atI_nat (j := 1) rfl, _, _, rfl, rfl, mul_sm (sm_of k1 (by decide)) (sm_of k4 (by decide)), _, rfl, _, _, rfl, rfl, _, _, rfl, rfl, mul_sm w1 kj, ?_⟩
    refine ⟨_, rfl, c, _, 0, _, rfl, rfl, hC', atI_nat (j := 0) rfl, _, rfl, b, _, 1, _, rfl, rfl, hB', atI_nat (j := 1) rfl, _, _, rfl, rfl, mul_sm (sm_of k2 (by decide)) (sm_of k3 (by decide)), _, _, rfl, rfl, ?_⟩
    have hpos : 0 < (lo.den : Int) * (hi.den : Int) * ((j : Int) + 2) := Int.mul_pos (Int.mul_pos (den_pos' lo) (den_pos' hi)) (by omega)
    refine ⟨_, rfl, _, rfl, b, _, 1, _, rfl, rfl, hB', atI_nat (j := 1) rfl, _, rfl, c, _, 1, _, rfl, rfl, hC', atI_nat (j := 1) rfl, _, _, rfl, rfl, mul_sm (sm_of k3 (by decide)) (sm_of k4 (by decide)), _, rfl, _, _, rfl, rfl, mul_sm w2 kj2, _, _, rfl, hpos, fun t H2 s2 ht => ?_⟩
    have hQ : IsQ K H2 (.ref t) (ptOf lo hi ((j : Int) + 2)) := ⟨t, rfl, .of ht⟩
    refine ⟨fun σ H3 => σ = [some (.ref a), some (.ref b), some (.ref c), some (.int ((j : Int) + 2)), some (.int (lo.num * (hi.den : Int) * ((j : Int) + 2 - 1) + hi.num * (lo.den : Int))), some (.ref t)] ∧ Same H H3 ∧ j < n, ?_, fun σ H3 hM => ?_⟩
    · refine ⟨_, rfl, _, rfl, _, _, l, _, rfl, ⟨a, rfl, s2 _ _ (sm _ _ hA)⟩, hQ, cb.ok j hj, fun H3 s3 => ?_⟩
      refine ⟨rfl, _, rfl, ?_⟩
      by_cases hjn : j = n
      · subst hjn
        refine ifT ?_ ?_
        · rw [decide_eq_false (fun e => cb.non (by rw [cb.pt]; exact V.int.inj e))]
          rfl
        · refine ⟨_, rfl, q _ _ (sm.trans (s2.trans s3)) ?_⟩
          rw [cb.pt]
          exact hQ.mono s3
      · have hz := cb.zero j (by omega)
        refine ifF (by rw [hz]; rfl) ⟨rfl, sm.trans (s2.trans s3), by omega⟩
    · obtain ⟨rfl, s3, hjn⟩ := hM
      refine ⟨_, rfl, _, _, rfl, rfl, ?_⟩
      refine ⟨n - (j + 1), by omega, j + 1, some (.int (lo.num * (hi.den : Int) * ((j : Int) + 2 - 1) + hi.num * (lo.den : Int))), some (.ref t), ?_, by omega, rfl, s3⟩
      have e : ((j : Int) + 2 + 1) = ((j + 1 : Nat) : Int) + 2 := by omega
      show [_, _, _, some (V.int ((j : Int) + 2 + 1)), _, _] = _
      rw [e]
end
end Kq

set_option Elab.async false
set_option linter.all false
set_option maxRecDepth 100000
set_option maxHeartbeats 4000000
/-! cuts_of, never_below -/
namespace Kq
open PySem PySem.Spec PyProof.Rows L2
/-! ### plain -/
def more (rows : List (List Int)) (lo hi : Rat) : Prop :=
  (1 : Int) < (varAt rows lo : Int) - (varAt rows hi : Int) ∨ ((varAt rows lo : Int) - (varAt rows hi : Int) = 1 ∧ (lo = 0 ∨ hi = 1))
instance (rows : List (List Int)) (lo hi : Rat) : Decidable (more rows lo hi) := inferInstanceAs (Decidable (_ ∨ _))
/-- the machine of cuts_of: what waits (the last one first), what is found, what is found in the end -/
inductive Cuts (row : List Int) (rows : List (List Int)) : Nat → List (Rat × Rat) → List Rat → List Rat → Prop where
  | nil (f : List Rat) : Cuts row rows 0 [] f f
  | skip {n : Nat} {ws : List (Rat × Rat)} {lo hi : Rat} {f fin : List Rat} (c : ¬ more rows lo hi) (ok : ∀ l ∈ rows, AtOk l lo ∧ AtOk l hi) (r : Cuts row rows n ws f fin) : Cuts row rows (n + 1) (ws ++ [(lo, hi)]) f fin
  | split {n k : Nat} {ws : List (Rat × Rat)} {lo hi p : Rat} {f fin : List Rat} (c : more rows lo hi) (ok : ∀ l ∈ rows, AtOk l lo ∧ AtOk l hi) (cb : CB row lo hi p k) (lw : ws.length ≤ 100000) (lf : f.length ≤ 100000) (r : Cuts row rows n (ws ++ [(lo, p), (p, hi)]) (f ++ [p]) fin) :
      Cuts row rows (n + 1) (ws ++ [(lo, hi)]) f fin
theorem Cuts.inv {row : List Int} {rows : List (List Int)} {n : Nat} {wq : List (Rat × Rat)} {f fin : List Rat} (h : Cuts row rows n wq f fin) :
    (wq = [] ∧ f = fin) ∨ ∃ m ws lo hi, n = m + 1 ∧ wq = ws ++ [(lo, hi)] ∧ (∀ l ∈ rows, AtOk l lo ∧ AtOk l hi) ∧
      ((¬ more rows lo hi ∧ Cuts row rows m ws f fin) ∨ (more rows lo hi ∧ ∃ p k, CB row lo hi p k ∧ ws.length ≤ 100000 ∧ f.length ≤ 100000 ∧ Cuts row rows m (ws ++ [(lo, p), (p, hi)]) (f ++ [p]) fin)) := by
  cases h with
  | nil => exact .inl ⟨rfl, rfl⟩
  | skip c ok r => exact .inr ⟨_, _, _, _, rfl, rfl, ok, .inl ⟨c, r⟩⟩
  | split c ok cb lw lf r => exact .inr ⟨_, _, _, _, rfl, rfl, ok, .inr ⟨c, _, _, cb, lw, lf, r⟩⟩
def cutsEnd (fin : List Rat) : List Rat := if fin = [] then [Rat.divInt 1 2] else fin
structure CutsOf (row : List Int) (out : List Rat) : Prop where
  ex : ∃ rows n fin, RemS row rows ∧ rows.length ≤ 1000 ∧ Cuts row rows n [(0, 1)] [] fin ∧ out = cutsEnd fin
/-- a pair of points -/
def IsP (K : PySem.W.Frag) (H : Hp) (v : V) (r : Rat × Rat) : Prop := ∃ p u t, v = .ref p ∧ SqT K H p [u, t] ∧ IsQ K H u r.1 ∧ IsQ K H t r.2
theorem IsP.gr {K : PySem.W.Frag} {H H' : Hp} (e : Gr H H') {v : V} {r : Rat × Rat} (h : IsP K H v r) : IsP K H' v r := by
  obtain ⟨p, u, t, rfl, h1, h2, h3⟩ := h
  exact ⟨p, u, t, rfl, Gr.t e h1, h2.gr e, h3.gr e⟩
/-- what the first point below tells -/
def firstBelow (l : List Int) : List Rat → Option Rat
  | [] => none
  | p :: r => if sgnAt l p < 0 then some p else firstBelow l r
def optV (K : PySem.W.Frag) (H : Hp) (v : V) : Option Rat → Prop
  | none => v = .non
  | some q => IsQ K H v q
/-- never_below's answer for a row of ratios -/
def NB (qs : List Rat) (out : Option Rat) : Prop :=
  (trim (wholes qs) = [] ∧ out = none) ∨ (trim (wholes qs) ≠ [] ∧ ∃ f cs, SZ (trim (wholes qs)) f ∧ CutsOf f cs ∧ (∀ p ∈ cs, AtOk (trim (wholes qs)) p) ∧ out = firstBelow (trim (wholes qs)) cs)
def sp_cuts_of (K : PySem.W.Frag) : Sp := fun vs H Q _ => ∃ (v : V) (l : List Int) (out : List Rat), vs = [v] ∧ IsI H v l ∧ CutsOf l out ∧ RetP (fun z H' => IsL (IsQ K H') H' z out) H Q
def sp_never_below (K : PySem.W.Frag) : Sp := fun vs H Q _ => ∃ (v : V) (qs : List Rat) (out : Option Rat), vs = [v] ∧ IsL (IsQ K H) H v qs ∧ qs.length ≤ 1000 ∧ (∀ q ∈ qs, Sm q.num ∧ Sm (q.den : Int)) ∧ (∀ i, 0 < (qs.take i).foldl stp 1 ∧ Sm ((qs.take i).foldl stp 1)) ∧ NB qs out ∧
  RetP (fun z H' => optV K H' z out) H Q
/-! ### ratios as data -/
def qD (q : Rat) : PyData := .tuple [.int q.num, .int (q.den : Int)]
theorem qD_lay (q : Rat) : (qD q).canLay0 = true := by simp [qD, PyData.canLay0, PyData.canLayAll0]
theorem qD_depth (q : Rat) : (qD q).depth = 1 := by simp [qD, PyData.depth, PyData.depthAll]
theorem qD_shaped (q : Rat) : SeqAt.shaped (qD q) = true := by
  have h := qD_depth q
  show ((qD q).canLay0 && decide ((qD q).depth ≤ 64)) = true
  rw [Bool.and_eq_true]
  exact ⟨qD_lay q, decide_eq_true (by omega)⟩
theorem qD_eqv (a b : Rat) : PyData.eqv (qD a) (qD b) = decide (a = b) := by
  have e : PyData.eqv (qD a) (qD b) = ((a.num == b.num) && (((a.den : Int) == (b.den : Int)) && true)) := by simp only [qD, PyData.eqv, PyData.eqvAll]
  rw [e]
  by_cases h : a = b
  · rw [h]
    simp
  · rw [decide_eq_false h]
    by_cases h1 : a.num = b.num
    · have h2 : (a.den : Int) ≠ (b.den : Int) := fun z => h (Rat.ext h1 (by omega))
      have q : ((a.den : Int) == (b.den : Int)) = false := beq_eq_false_iff_ne.mpr h2
      rw [q, Bool.false_and, Bool.and_false]
    · have q : (a.num == b.num) = false := beq_eq_false_iff_ne.mpr h1
      rw [q, Bool.false_and]
theorem dp_of {K : PySem.W.Frag} {H : Hp} {v : V} {q : Rat} (h : IsQ K H v q) : Dp K H v (qD q) := by
  obtain ⟨p, rfl, t⟩ := h
  exact .tup t (.cons (.int _) (.cons (.int _) .nil))
theorem isL_get {K : PySem.W.Frag} {R : V → α → Prop} {H : Hp} {v : V} {xs : List α} (h : IsL R H v xs) : ∃ p vs, v = .ref p ∧ H p = some (.lst vs) ∧ Paired R vs xs := h
section
variable {P : Program} {w : World} {K : PySem.W.Frag} {mg : Str → Option Value} {base : Heap}
theorem h_cuts_of (T : Txt K mg) {k : Nat} (G_remainders : Has P w K mg base "remainders" ["row"] k sp_remainders) (G_changes : Has P w K mg base "changes" ["rows", "point"] k (sp_changes K)) (G_cut_between : Has P w K mg base "cut_between" ["row", "low", "high"] k (sp_cut_between K)) : Has P w K mg base "cuts_of" ["row"] (k + 1) (sp_cuts_of K) := by
  refine has_of T.d_cuts_of sc_cuts_of (fun vs H Q E h => ?_) (fun f cdv A outer s H vs Q E hr h => ?_)
  · obtain ⟨v, l, out, rfl, _⟩ := h
    rfl
  · obtain ⟨v, l, out, rfl, ⟨a, rfl, hA⟩, ⟨rows, n0, fin, hrem, hrl, hcuts, rfl⟩, q⟩ := h
    refine ⟨_, (pss_cons (ps_par3 (i := 1) (j := 2) (l := 3) (by rfl) sc_cuts_of.nd rfl rfl rfl (by decide) (by decide) (by decide) rfl rfl rfl (pa_cons (pe_callH G_remainders hr (by rfl) (pa_cons (pv 0) pa_nil)) (pa_cons (pe_lst pa_nil) (pa_cons (pe_lst (pa_cons (pe_tup (pa_cons (pe_tup (pa_cons pe_int (pa_cons pe_int pa_nil))) (pa_cons (pe_tup (pa_cons pe_int (pa_cons pe_int pa_nil))) pa_nil))) pa_nil)) pa_nil))) (by rfl)) (Evl.pss_cut (ps_while PassesOwn.never (pt_cmpR op_gt (pe_callB call_len_seq (by rfl) T.b_len PySem.boot_len (pa_cons (pv 3) pa_nil)) pe_int (nomark _)) (pss_cons (ps_asg (pe_bm0 PySem.F.plainAttrs_list PySem.F.slot_list_pop PySem.F.type_list_pop mt_pop (pv 3)) (pg_tup rfl (pgs_cons (pg_name (i := 4) sc_cuts_of.nd rfl (.inl rfl)) (pgs_cons (pg_name (i := 5) sc_cuts_of.nd rfl (.inl rfl)) pgs_nil)))) (pss_cons (ps_set (i := 6) sc_cuts_of.nd rfl (.inl rfl) (pe_op op_sub (pe_callH G_changes hr (by rfl) (pa_cons (pv 1) (pa_cons (pv 4) pa_nil))) (pe_callH G_changes hr (by rfl) (pa_cons (pv 1) (pa_cons (pv 5) pa_nil))))) (pss_one (ps_if (PW.pt (pw_or (pt_cmpR op_gt (pv 6) pe_int (nomark _)) (pw_or1 (PW.pt (pw_and (pt_cmpR op_eq (pv 6) pe_int (nomark _)) (pw_and1 (PW.pt (pw_or (pt_cmpR (op_eqD hr.units) (pv 4) (pe_tup (pa_cons pe_int (pa_cons pe_int pa_nil))) (nomark _)) (pw_or1 (pt_cmpR (op_eqD hr.units) (pv 5) (pe_tup (pa_cons pe_int (pa_cons pe_int pa_nil))) (nomark _))))))))))) (pss_cons (ps_set (i := 7) sc_cuts_of.nd rfl (.inl rfl) (pe_callH G_cut_between hr (by rfl) (pa_cons (pv 0) (pa_cons (pv 4) (pa_cons (pv 5) pa_nil))))) (pss_cons (ps_expr (pe_bm PySem.F.plainAttrs_list PySem.F.slot_list_append PySem.F.type_list_append mt_append (pv 2) (pa_cons (pv 7) pa_nil))) (pss_one (ps_set (i := 3) sc_cuts_of.nd rfl (.inl rfl) (pe_op op_cat (pv 3) (pe_lst (pa_cons (pe_tup (pa_cons (pv 4) (pa_cons (pv 7) pa_nil))) (pa_cons (pe_tup (pa_cons (pv 7) (pa_cons (pv 5) pa_nil))) pa_nil)))))))) pss_nil))))) (pss_one (ps_ret (pe_ifExp (pt_cmpR op_gt (pe_callB call_len_seq (by rfl) T.b_len PySem.boot_len (pa_cons (pv 2) pa_nil)) pe_int (nomark _)) (pv 2) (pe_lst (pa_cons (pe_tup (pa_cons pe_int (pa_cons pe_int pa_nil))) pa_nil))))))), ?_⟩
    refine ⟨_, rfl, _, l, rows, rfl, ⟨a, rfl, hA⟩, hrem, fun z H1 s1 hz => ?_⟩
    obtain ⟨R, rs, rfl, hR, hPR⟩ := hz
    refine ⟨Nat.zero_le _, fun Fd hFd => ?_⟩
    have e1 := same_new (o := .lst []) hFd
    refine ⟨by show 2 ≤ sizeLine; decide, fun p1 hp1 => ?_⟩
    have e2 := e1.trans (same_new (o := .tup [.int 0, .int 1]) hp1)
    refine ⟨by show 2 ≤ sizeLine; decide, fun p2 hp2 => ?_⟩
    have e3 := same_new (o := .tup [.int 1, .int 1]) hp2
    refine ⟨by show 2 ≤ sizeLine; decide, fun p3 hp3 => ?_⟩
    have e4 := same_new (o := .tup [.ref p1, .ref p2]) hp3
    refine ⟨by show 1 ≤ sizeLine; decide, fun Wt hWt => ?_⟩
    have e5 := same_new (o := .lst [.ref p3]) hWt
    refine ⟨_, _, _, rfl, ?_⟩
    have nF : H1 Fd = none := hFd
    have nW : H1 Wt = none := (e2.trans (e3.trans e4)).free hWt
    have g1 := upd_same (H := upd H1 Fd (.lst [])) (a := p1) (o := .tup [.int 0, .int 1])
    have gF := (same_new (o := .tup [.int 0, .int 1]) hp1) _ _ (upd_same (H := H1) (a := Fd) (o := .lst []))
    have hFW : Fd ≠ Wt := ne_of_none (e4 _ _ (e3 _ _ gF)) hWt
    -- the loop
    refine ⟨fun σ H' => ∃ (Fd : Addr) (fs : List V) (y3 y4 y5 y6 y7 : Option V), σ = [some (.ref a), some (.ref R), some (.ref Fd), y3, y4, y5, y6, y7] ∧ Same H H' ∧ H' Fd = some (.lst fs) ∧ Paired (IsQ K H') fs fin, ?_, fun σ H5 hM => ?_⟩
    · refine ⟨fun n σ H' => ∃ (Wt : Addr) (fs ws : List V) (f : List Rat) (wq : List (Rat × Rat)) (y4 y5 y6 y7 : Option V), σ = [some (.ref a), some (.ref R), some (.ref Fd), some (.ref Wt), y4, y5, y6, y7] ∧ Same H1 H' ∧ H1 Wt = none ∧ Fd ≠ Wt ∧
        H' Fd = some (.lst fs) ∧ Paired (IsQ K H') fs f ∧ H' Wt = some (.lst ws) ∧ Paired (IsP K H') ws wq ∧ Cuts l rows n wq f fin,
        ⟨n0, Wt, [], [.ref p3], [], [(0, 1)], _, _, _, _, rfl, e2.trans (e3.trans (e4.trans e5)), nW, hFW, e5 _ _ (e4 _ _ (e3 _ _ gF)), .nil, upd_same,
          .cons ⟨p3, _, _, rfl, .of (e5 _ _ upd_same), ⟨p1, rfl, .of (e5 _ _ (e4 _ _ (e3 _ _ g1)))⟩, ⟨p2, rfl, .of (e5 _ _ (e4 _ _ upd_same))⟩⟩ .nil, hcuts⟩, fun n σ H' hW => ?_⟩
      obtain ⟨Wt, fs, ws, f, wq, y4, y5, y6, y7, rfl, sm, nWt, hne, eF, hPf, eW, hPw, hc⟩ := hW
      refine ⟨_, rfl, Wt, _, rfl, .inl (.of eW), _, _, rfl, rfl, _, rfl, ?_⟩
      have lwq : ws.length = wq.length := hPw.length
      rcases hc.inv with ⟨rfl, rfl⟩ | ⟨m, wq', lo, hi, rfl, rfl, hok, hcc⟩
      · refine ifF (decide_eq_false (by rw [lwq]; decide)) ?_
        exact ⟨Fd, fs, _, _, _, _, _, rfl, s1.trans sm, eF, hPf⟩
      refine ifT (decide_eq_true (by rw [lwq, List.length_append]; show (0 : Int) < ((wq'.length + 1 : Nat) : Int); omega)) ?_
      obtain ⟨w1, w2, rfl, hPw1, hPw2⟩ := paired_app_inv hPw
      cases hPw2 with
      | @cons vp w3 _ _ ip t =>
      cases t
      refine ⟨_, fun σ' H'' hN => hN, ?_⟩
      -- low, high = waiting.pop()
      have epop : (w1 ++ [vp])[(w1 ++ [vp]).length - 1]? = some vp := by rw [List.length_append]; simp
      refine ⟨_, rfl, .inl ⟨rfl, _, .of eW⟩, Wt, _, vp, rfl, rfl, eW, epop, ?_⟩
      rw [List.dropLast_concat]
      have gW : Gr H' (upd H' Wt (.lst w1)) := gr_mut eW
      have sm2 : Same H1 (upd H' Wt (.lst w1)) := same_mut sm nWt
      have eF2 : (upd H' Wt (.lst w1)) Fd = some (.lst fs) := by rw [upd_ne hne]; exact eF
      have eW2 : (upd H' Wt (.lst w1)) Wt = some (.lst w1) := upd_same
      have hPf2 : Paired (IsQ K (upd H' Wt (.lst w1))) fs f := paired_mono hPf fun _ _ r => r.gr gW
      have hPw2 : Paired (IsP K (upd H' Wt (.lst w1))) w1 wq' := paired_mono hPw1 fun _ _ r => r.gr gW
      obtain ⟨pp, u1, u2, rfl, ht, hlo, hhi⟩ := ip.gr gW
      generalize upd H' Wt (.lst w1) = H2 at sm2 eF2 eW2 hPf2 hPw2 ht hlo hhi
      refine ⟨pp, _, rfl, ht, rfl, _, _, rfl, _, _, rfl, rfl, ?_⟩
      -- many
      have hR2 := sm2 _ _ hR
      have hPR2 := pairedI_mono sm2 hPR
      refine ⟨_, rfl, _, rfl, _, _, rows, lo, rfl, ⟨R, rs, rfl, hR2, hPR2⟩, hlo, hrl, fun l hl => (hok l hl).1, fun H3 s3 => ?_⟩
      refine ⟨_, rfl, _, rfl, _, _, rows, hi, rfl, ⟨R, rs, rfl, s3 _ _ hR2, pairedI_mono s3 hPR2⟩, hhi.mono s3, hrl, fun l hl => (hok l hl).2, fun H4 s4 => ?_⟩
      refine ⟨_, _, rfl, rfl, ?_⟩
      have s24 := s3.trans s4
      have sm4 := sm2.trans s24
      -- the test
      dsimp only [gName]
      refine Evl.s_if (b := decide (more rows lo hi)) (fun H5 e5 Q5 q5 => ?_) (fun hb H5 e5 => ?_) (fun hb H5 e5 => ?_)
      · have hm : more rows lo hi = ((1 : Int) < (varAt rows lo : Int) - (varAt rows hi : Int) ∨ ((varAt rows lo : Int) - (varAt rows hi : Int) = 1 ∧ (lo = 0 ∨ hi = 1))) := rfl
        generalize (varAt rows lo : Int) - (varAt rows hi : Int) = many at hm
        have dlo := dp_of (hlo.mono (s24.trans e5))
        have dhi := dp_of (hhi.mono (s24.trans e5))
        refine ⟨_, rfl, _, _, rfl, rfl, _, rfl, ?_⟩
        by_cases h1 : 1 < many
        · refine ifT (decide_eq_true h1) ?_
          have := q5 H5 (Same.refl _)
          rw [decide_eq_true (by rw [hm]; exact .inl h1)] at this
          exact this
        refine ifF (decide_eq_false h1) ?_
        refine ⟨_, rfl, rfl, _, rfl, ?_⟩
        by_cases h2 : many = 1
        · refine ifT (decide_eq_true (by rw [h2])) ?_
          refine ⟨_, rfl, by show 2 ≤ sizeLine; decide, fun z1 hz1 => ?_⟩
          have f1 := same_new (o := .tup [.int 0, .int 1]) hz1
          have d0 : Dp K (upd H5 z1 (.tup [.int 0, .int 1])) (.ref z1) (qD 0) := .tup (.of upd_same) (.cons (.int _) (.cons (.int _) .nil))
          refine ⟨qD lo, qD 0, dp_of (hlo.mono ((s24.trans e5).trans f1)), d0, qD_shaped _, qD_shaped _, _, rfl, ?_⟩
          rw [qD_eqv]
          by_cases h3 : lo = 0
          · refine ifT (decide_eq_true h3) ?_
            have := q5 _ f1
            rw [decide_eq_true (by rw [hm]; exact .inr ⟨h2, .inl h3⟩)] at this
            exact this
          refine ifF (decide_eq_false h3) ?_
          refine ⟨_, rfl, by show 2 ≤ sizeLine; decide, fun z2 hz2 => ?_⟩
          have f2 := f1.trans (same_new (o := .tup [.int 1, .int 1]) hz2)
          have d1 : Dp K (upd (upd H5 z1 (.tup [.int 0, .int 1])) z2 (.tup [.int 1, .int 1])) (.ref z2) (qD 1) := .tup (.of upd_same) (.cons (.int _) (.cons (.int _) .nil))
          refine ⟨qD hi, qD 1, dp_of (hhi.mono ((s24.trans e5).trans f2)), d1, qD_shaped _, qD_shaped _, _, rfl, ?_⟩
          rw [qD_eqv]
          have := q5 _ f2
          have e : decide (more rows lo hi) = decide (hi = 1) := decide_eq_decide.mpr (by
            rw [hm]
            simp [h1, h2, h3])
          rw [e] at this
          exact this
        · refine ifF (decide_eq_false (fun z => h2 (V.int.inj z))) ?_
          have := q5 H5 (Same.refl _)
          rw [decide_eq_false (by rw [hm]; intro z; rcases z with h | ⟨h, _⟩ <;> omega)] at this
          exact this
      · -- a cut
        have s25 := s24.trans e5
        rcases hcc with ⟨hn, _⟩ | ⟨hy, p, k, cb, lw, lf, hr'⟩
        · exact absurd (of_decide_eq_true hb) hn
        refine ⟨_, rfl, _, rfl, _, rfl, _, _, _, l, lo, hi, p, k, rfl, ⟨a, rfl, (sm2.trans s25) _ _ (s1 _ _ hA)⟩, hlo.mono s25, hhi.mono s25, cb, fun z H6 s6 hz => ?_⟩
        have s26 := s25.trans s6
        have eF6 := s26 _ _ eF2
        have eW6 := s26 _ _ eW2
        have lfs : fs.length = f.length := hPf.length
        have lws : w1.length = wq'.length := hPw1.length
        refine ⟨_, rfl, .inl ⟨rfl, _, .of eF6⟩, _, rfl, Fd, _, _, rfl, rfl, eF6, by rw [lfs]; exact Nat.lt_of_le_of_lt lf (by decide), ?_⟩
        have gF6 : Gr H6 (upd H6 Fd (.lst (fs ++ [z]))) := gr_mut eF6
        have sm7 : Same H1 (upd H6 Fd (.lst (fs ++ [z]))) := same_mut (sm2.trans s26) nF
        have eW7 : (upd H6 Fd (.lst (fs ++ [z]))) Wt = some (.lst w1) := by rw [upd_ne hne.symm]; exact eW6
        have eF7 : (upd H6 Fd (.lst (fs ++ [z]))) Fd = some (.lst (fs ++ [z])) := upd_same
        have g27 := (Same.gr s26).trans gF6
        have hz7 := hz.gr gF6
        have hlo7 := hlo.gr g27
        have hhi7 := hhi.gr g27
        have hPf7 : Paired (IsQ K (upd H6 Fd (.lst (fs ++ [z])))) fs f := paired_mono hPf2 fun _ _ r => r.gr g27
        have hPw7 : Paired (IsP K (upd H6 Fd (.lst (fs ++ [z])))) w1 wq' := paired_mono hPw2 fun _ _ r => r.gr g27
        generalize upd H6 Fd (.lst (fs ++ [z])) = H7 at sm7 eW7 eF7 hz7 hlo7 hhi7 hPf7 hPw7
        -- waiting + [(low, point), (point, high)]
        refine ⟨_, rfl, _, rfl, _, rfl, by show 2 ≤ sizeLine; decide, fun q1 hq1 => ?_⟩
        have f1 := same_new (o := .tup [u1, z]) hq1
        refine ⟨_, rfl, _, rfl, by show 2 ≤ sizeLine; decide, fun q2 hq2 => ?_⟩
        have f2 := same_new (o := .tup [z, u2]) hq2
        refine ⟨by show 2 ≤ sizeLine; decide, fun q3 hq3 => ?_⟩
        have f3 := same_new (o := .lst [.ref q1, .ref q2]) hq3
        have f123 := f1.trans (f2.trans f3)
        refine ⟨Wt, q3, _, _, rfl, rfl, f123 _ _ eW7, upd_same, by rw [lws]; show wq'.length + 2 ≤ sizeLine; exact Nat.le_trans (Nat.add_le_add_right lw 2) (by decide), fun q4 hq4 => ?_⟩
        have f4 := f123.trans (same_new (o := .lst (w1 ++ [.ref q1, .ref q2])) hq4)
        have f234 := f2.trans (f3.trans (same_new (o := .lst (w1 ++ [.ref q1, .ref q2])) hq4))
        have f34 := f3.trans (same_new (o := .lst (w1 ++ [.ref q1, .ref q2])) hq4)
        refine ⟨m, Nat.lt_succ_self m, q4, fs ++ [z], w1 ++ [.ref q1, .ref q2], f ++ [p], wq' ++ [(lo, p), (p, hi)], _, _, _, _, rfl, sm7.trans f4, (sm7.trans f123).free hq4, ne_of_none (f123 _ _ eF7) hq4, f4 _ _ eF7, ?_, upd_same, ?_, hr'⟩
        · exact paired_snoc (paired_mono hPf7 fun _ _ r => r.mono f4) (hz7.mono f4)
        · refine paired_app (paired_mono hPw7 fun _ _ r => r.gr (Same.gr f4)) (.cons ⟨q1, u1, z, rfl, .of (f234 _ _ upd_same), hlo7.mono f4, hz7.mono f4⟩ (.cons ⟨q2, z, u2, rfl, .of (f34 _ _ upd_same), hz7.mono f4, hhi7.mono f4⟩ .nil))
      · have s25 := s24.trans e5
        rcases hcc with ⟨hn, hr'⟩ | ⟨hy, _⟩
        · exact ⟨m, Nat.lt_succ_self m, Wt, fs, w1, f, wq', _, _, _, _, rfl, sm2.trans s25, nWt, hne, s25 _ _ eF2, paired_mono hPf2 fun _ _ r => r.mono s25, s25 _ _ eW2, paired_mono hPw2 fun _ _ r => r.gr (Same.gr s25), hr'⟩
        · exact absurd hy (of_decide_eq_false hb)
    · obtain ⟨Fd, fs, y3, y4, y5, y6, y7, rfl, s5, eF, hPf⟩ := hM
      have lfs : fs.length = fin.length := hPf.length
      refine ⟨_, rfl, Fd, _, rfl, .inl (.of eF), _, _, rfl, rfl, _, rfl, ?_⟩
      by_cases he : fin = []
      · refine ifF (decide_eq_false (by rw [lfs, he]; decide)) ?_
        refine ⟨by show 2 ≤ sizeLine; decide, fun z1 hz1 => ?_⟩
        refine ⟨by show 1 ≤ sizeLine; decide, fun z2 hz2 => ?_⟩
        have f1 := same_new (o := .tup [.int 1, .int 2]) hz1
        have f2 := same_new (o := .lst [.ref z1]) hz2
        refine q _ _ (s5.trans (f1.trans f2)) ⟨z2, [.ref z1], rfl, upd_same, ?_⟩
        rw [show cutsEnd fin = [Rat.divInt 1 2] from if_pos he]
        exact .cons ⟨z1, rfl, .of (f2 _ _ upd_same)⟩ .nil
      · have h0 : 0 < fin.length := List.length_pos_iff.mpr he
        refine ifT (decide_eq_true (by rw [lfs]; omega)) ?_
        refine ⟨_, rfl, q _ _ s5 ⟨Fd, fs, rfl, eF, ?_⟩⟩
        rw [show cutsEnd fin = fin from if_neg he]
        exact hPf
end
end Kq

set_option Elab.async false
set_option linter.all false
set_option maxRecDepth 100000
set_option maxHeartbeats 4000000
/-! never_below, gap_sums, told_polynomial, never_worse -/
namespace Kq
open PySem PySem.Spec PyProof.Rows L2
/-- a comprehension over a tuple -/
theorem lcT {K : PySem.W.Frag} {a : Addr} {xs : List V} {H1 : Hp} {D : Addr} {g : TG} {te : TE} {vs : List Nat} {σ : L2.St} {Qd : Hp → Prop} (R : Nat → V → Hp → Prop) (hz : xs.length ≤ 100000)
    (hD : H1 D = none) (hx : SqT K H1 a xs) (hR : ∀ i v H H', Gr H H' → R i v H → R i v H')
    (hs : ∀ i x H', xs[i]? = some x → Same H1 H' → ∀ (Qk : VK) (Nx : Hp → Prop), (∀ v H3, Same H' H3 → R i v H3 → Qk v H3) →
      g x (wipe σ vs) H' fun σ2 H2 => wipe σ2 vs = wipe σ vs ∧ tYes σ2 H2 fun b H3 => if b = true then te σ2 H3 Qk else Nx H3)
    (hd : ∀ H' ws, Same H1 H' → H' D = some (.lst ws) → ws.length = xs.length → (∀ i v, ws[i]? = some v → R i v H') → Qd H') :
    ∃ W : Nat → Nat → Hp → Prop, (∃ m, W 0 m (upd H1 D (.lst []))) ∧ ∀ i m H, W i m H →
      ((Itt K a).stop i H ∧ Qd H) ∨ ((Itt K a).go i H ∧ ∃ Nx : Hp → Prop, (∀ H', Nx H' → ∃ m', m' < m ∧ W (i + 1) m' H') ∧ ∀ x H', (Itt K a).yld i H x H' → g x (wipe σ vs) H' fun σ2 H2 => wipe σ2 vs = wipe σ vs ∧ tYes σ2 H2 fun b H3 =>
        if b = true then te σ2 H3 fun y H4 => ∃ acc, H4 D = some (.lst acc) ∧ acc.length < sizeLine ∧ Nx (upd H4 D (.lst (acc ++ [y]))) else Nx H3) := by
  have sq : ∀ H', (Same H1 H' ∧ ∃ l, H' D = some (.lst l)) → SqT K H' a xs := fun H' h => Same.t h.1 hx
  refine lcG (fun _ H' => Same H1 H' ∧ ∃ l, H' D = some (.lst l)) R hz ⟨same_new hD, _, upd_same⟩ (fun i H' l l' h _ => ⟨same_mut h.1 hD, _, upd_same⟩) hR (fun i H hi h => ⟨xs, xs[i], sq H h, by simp [hi]⟩) (fun H h => ⟨xs, sq H h, Nat.le_refl _⟩)
    (fun i x H' H'' hi h y Qk Nx k => ?_) (fun H' ws h e1 e2 e3 => hd H' ws h.1 e1 e2 e3)
  obtain ⟨rfl, y⟩ := y
  refine hs i x _ (y xs (sq _ h)) h.1 Qk Nx fun v H3 s3 r3 => ?_
  obtain ⟨l, hl⟩ := h.2
  exact k v H3 ⟨h.1.trans s3, l, s3 _ _ hl⟩ (Same.gr s3) ((s3 _ _ hl).trans hl.symm) r3
/-- a comprehension over range(n) -/
theorem lcN {n : Nat} {H1 : Hp} {D : Addr} {g : TG} {te : TE} {vs : List Nat} {σ : L2.St} {Qd : Hp → Prop} (R : Nat → V → Hp → Prop) (hz : n ≤ 100000)
    (hD : H1 D = none) (hR : ∀ i v H H', Gr H H' → R i v H → R i v H')
    (hs : ∀ (i : Nat) H', i < n → Same H1 H' → ∀ (Qk : VK) (Nx : Hp → Prop), (∀ v H3, Same H' H3 → R i v H3 → Qk v H3) →
      g (.int ((0 : Int) + (i : Int))) (wipe σ vs) H' fun σ2 H2 => wipe σ2 vs = wipe σ vs ∧ tYes σ2 H2 fun b H3 => if b = true then te σ2 H3 Qk else Nx H3)
    (hd : ∀ H' ws, Same H1 H' → H' D = some (.lst ws) → ws.length = n → (∀ i v, ws[i]? = some v → R i v H') → Qd H') :
    ∃ W : Nat → Nat → Hp → Prop, (∃ m, W 0 m (upd H1 D (.lst []))) ∧ ∀ i m H, W i m H →
      ((Itr 0 n).stop i H ∧ Qd H) ∨ ((Itr 0 n).go i H ∧ ∃ Nx : Hp → Prop, (∀ H', Nx H' → ∃ m', m' < m ∧ W (i + 1) m' H') ∧ ∀ x H', (Itr 0 n).yld i H x H' → g x (wipe σ vs) H' fun σ2 H2 => wipe σ2 vs = wipe σ vs ∧ tYes σ2 H2 fun b H3 =>
        if b = true then te σ2 H3 fun y H4 => ∃ acc, H4 D = some (.lst acc) ∧ acc.length < sizeLine ∧ Nx (upd H4 D (.lst (acc ++ [y]))) else Nx H3) := by
  refine lcG (fun _ H' => Same H1 H' ∧ ∃ l, H' D = some (.lst l)) R hz ⟨same_new hD, _, upd_same⟩ (fun i H' l l' h _ => ⟨same_mut h.1 hD, _, upd_same⟩) hR (fun i H hi h => hi) (fun H h => Nat.le_refl _)
    (fun i x H' H'' hi h y Qk Nx k => ?_) (fun H' ws h e1 e2 e3 => hd H' ws h.1 e1 e2 e3)
  obtain ⟨rfl, rfl⟩ := y
  refine hs i _ hi h.1 Qk Nx fun v H3 s3 r3 => ?_
  obtain ⟨l, hl⟩ := h.2
  exact k v H3 ⟨h.1.trans s3, l, s3 _ _ hl⟩ (Same.gr s3) ((s3 _ _ hl).trans hl.symm) r3
/-! ### plain -/
def QSm (q : Rat) : Prop := Sm q.num ∧ Sm (q.den : Int)
def padded (qs : List Rat) (n : Nat) : List Rat := qs ++ List.replicate (n - qs.length) 0
def gaps (ps rs : List Rat) : List Rat := (padded ps (max ps.length rs.length)).zipWith (· - ·) (padded rs (max ps.length rs.length))
/-- never_worse's answer -/
structure NW (ps rs : List Rat) (out : Option Rat) : Prop where
  lp : ps.length ≤ 400
  lr : rs.length ≤ 400
  sp : ∀ q ∈ ps, QSm q
  sr : ∀ q ∈ rs, QSm q
  sd : ∀ q ∈ gaps ps rs, QSm q
  sc : ∀ i, 0 < ((gaps ps rs).take i).foldl stp 1 ∧ Sm (((gaps ps rs).take i).foldl stp 1)
  nb : NB (gaps ps rs) out
def sp_gap_sums (K : PySem.W.Frag) : Sp := fun vs H Q _ => ∃ (v u : V) (ps rs : List Rat), vs = [v, u] ∧ IsL (IsQ K H) H v ps ∧ IsL (IsQ K H) H u rs ∧ ps.length = rs.length ∧ ps.length ≤ 1000 ∧ (∀ q ∈ ps, QSm q) ∧ (∀ q ∈ rs, QSm q) ∧
  RetP (fun z H' => IsL (IsQ K H') H' z (ps.zipWith (· - ·) rs)) H Q
def sp_told_polynomial (K : PySem.W.Frag) : Sp := fun vs H Q _ => ∃ (v : V) (ps : List Rat), vs = [v] ∧ IsT K (IsN K H) H v ps ∧ ps.length ≤ 1000 ∧ RetP (fun z H' => IsL (IsQ K H') H' z ps) H Q
def sp_never_worse (K : PySem.W.Frag) : Sp := fun vs H Q _ => ∃ (v u : V) (ps rs : List Rat) (out : Option Rat), vs = [v, u] ∧ IsT K (IsN K H) H v ps ∧ IsT K (IsN K H) H u rs ∧ NW ps rs out ∧ RetP (fun z H' => optV K H' z out) H Q
theorem firstBelow_snoc (l : List Int) : ∀ (cs : List Rat) (p : Rat), firstBelow l cs = none → firstBelow l (cs ++ [p]) = if sgnAt l p < 0 then some p else none
  | [], p, _ => rfl
  | c :: cs, p, h => by
    unfold firstBelow at h
    split at h
    · cases h
    · rename_i hc
      show (if sgnAt l c < 0 then some c else firstBelow l (cs ++ [p])) = _
      rw [if_neg hc]
      exact firstBelow_snoc l cs p h
theorem firstBelow_app (l : List Int) : ∀ (cs ds : List Rat) (p : Rat), firstBelow l cs = some p → firstBelow l (cs ++ ds) = some p
  | [], _, _, h => by cases h
  | c :: cs, ds, p, h => by
    unfold firstBelow at h
    show (if sgnAt l c < 0 then some c else firstBelow l (cs ++ ds)) = _
    split at h
    · rename_i hc
      rw [if_pos hc]
      exact h
    · rename_i hc
      rw [if_neg hc]
      exact firstBelow_app l cs ds p h
section
variable {P : Program} {w : World} {K : PySem.W.Frag} {mg : Str → Option Value} {base : Heap}
theorem h_never_below (T : Txt K mg) {k : Nat} (G_trimmed : Has P w K mg base "trimmed" ["row"] k sp_trimmed) (G_cuts_of : Has P w K mg base "cuts_of" ["row"] k (sp_cuts_of K)) (G_whole_numbers : Has P w K mg base "whole_numbers" ["row"] k (sp_whole_numbers K)) (G_single_zeros : Has P w K mg base "single_zeros" ["row"] k sp_single_zeros)
    (G_signs_at : Has P w K mg base "signs_at" ["row", "point"] k (sp_signs_at K)) (G_ratio_of : Has P w K mg base "ratio_of" ["number"] k (sp_ratio_of K)) : Has P w K mg base "never_below" ["row"] (k + 1) (sp_never_below K) := by
  refine has_of T.d_never_below sc_never_below (fun vs H Q E h => ?_) (fun f cdv A outer s H vs Q E hr h => ?_)
  · obtain ⟨v, qs, out, rfl, _⟩ := h
    rfl
  · obtain ⟨v, qs, out, rfl, ⟨a, vs, rfl, hA, hP⟩, hlen, hsm, hsc, hnb, q⟩ := h
    have lvs : vs.length = qs.length := hP.length
    refine ⟨_, (pss_cons (ps_set (i := 1) sc_never_below.nd rfl (.inl rfl) (pe_callH G_trimmed hr (by rfl) (pa_cons (pe_callH G_whole_numbers hr (by rfl) (pa_cons (pe_lc (own := [("number", 3)]) (g := (gName 3)) rfl sc_never_below.nd (pi_list (pv 0)) (blkOk_by (own := [("number", 3)]) (N := ["row", "numbers", "point", "number"]) (sc := defScope s_never_below) (by decide +kernel)) (fun _ _ _ _ _ => (pg_name (i := 3) sc_never_below.nd rfl (.inl rfl) (hf := .inr rfl))) (fun _ _ _ _ _ => pts_nil) (fun _ _ _ _ _ => (pe_callH G_ratio_of hr (by rfl) (pa_cons (pv 3) pa_nil)))) pa_nil)) pa_nil))) (Evl.pss_cut (ps_if (pt_cmpR op_eq (pe_callB call_len_seq (by rfl) T.b_len PySem.boot_len (pa_cons (pv 1) pa_nil)) pe_int (nomark _)) (pss_one (ps_ret pe_non)) pss_nil) (Evl.pss_cut (ps_for PassesOwn.never rfl (pi_list (pe_callH G_cuts_of hr (by rfl) (pa_cons (pe_callH G_single_zeros hr (by rfl) (pa_cons (pv 1) pa_nil)) pa_nil))) (pg_name (i := 2) sc_never_below.nd rfl (.inl rfl)) (pss_one (ps_if (pt_cmpR op_lt (pe_callH G_signs_at hr (by rfl) (pa_cons (pv 1) (pa_cons (pv 2) pa_nil))) pe_int (nomark _)) (pss_one (ps_ret (pv 2))) pss_nil))) (pss_one (ps_ret pe_non))))), ?_⟩
    refine ⟨_, rfl, a, rfl, ⟨_, .of hA⟩, fun D hD => lcL (xs := vs) (fun i v H' => ∃ x : Rat, qs[i]? = some x ∧ IsQ K H' v x) (by omega) hD hA (fun i v H H' g ⟨x, e, h⟩ => ⟨x, e, h.gr g⟩) (fun i x H' hx s4 Qk Nx k => ?_) (fun H1 ws s1 hW hl hv => ?_)⟩
    · obtain ⟨r, er, hr'⟩ := paired_get hP hx
      refine yesE rfl ?_
      refine ⟨_, rfl, _, r, rfl, (hr'.mono s4).n, fun v3 H3 s3 h3 => ?_⟩
      exact k _ _ s3 ⟨r, er, h3⟩
    have hPw : Paired (IsQ K H1) ws qs := paired_of (by omega) fun i v y e1 e2 => by
      obtain ⟨x, e3, h3⟩ := hv i v e1
      rw [e2] at e3
      cases e3
      exact h3
    refine ⟨_, qs, rfl, ⟨D, ws, rfl, hW, hPw⟩, hlen, hsm, hsc, fun z H2 s2 hz => ?_⟩
    refine ⟨_, _, rfl, hz, by unfold wholes; rw [List.length_map]; exact hlen, fun z3 H3 s3 hz3 => ?_⟩
    obtain ⟨nm, rfl, hN⟩ := hz3
    have s123 := s1.trans (s2.trans s3)
    generalize hnum : trim (wholes qs) = num at hN
    unfold NB at hnb
    rw [hnum] at hnb
    -- if len(numbers) == 0
    refine ⟨fun σ H4 => σ = [some (.ref a), some (.ref nm), none, none] ∧ H4 = H3 ∧ num ≠ [], ?_, fun σ H4 hM => ?_⟩
    · refine ⟨_, rfl, nm, _, rfl, .inl (.of hN), rfl, _, rfl, ?_⟩
      rw [List.length_map]
      by_cases he : num = []
      · refine ifT (decide_eq_true (by rw [he]; rfl)) ?_
        rcases hnb with ⟨_, rfl⟩ | ⟨h, _⟩
        · exact q _ _ s123 rfl
        · exact absurd he h
      · refine ifF (decide_eq_false (fun z => he (List.eq_nil_of_length_eq_zero (by have := V.int.inj z; omega)))) ⟨rfl, rfl, he⟩
    obtain ⟨rfl, rfl, hne⟩ := hM
    rcases hnb with ⟨h, _⟩ | ⟨_, fz, cs, hsz, hcs, hok, rfl⟩
    · exact absurd h hne
    -- the cuts
    refine ⟨fun σ H5 => firstBelow num cs = none ∧ Same H H5, ?_, fun σ H5 hM => ?_⟩
    · refine ⟨_, rfl, _, num, fz, rfl, ⟨nm, rfl, hN⟩, hsz, fun z5 H5 s5 hz5 => ?_⟩
      refine ⟨_, fz, cs, rfl, hz5, hcs, fun z6 H6 s6 hz6 => ?_⟩
      obtain ⟨C, us, rfl, hC, hPu⟩ := hz6
      have lus : us.length = cs.length := hPu.length
      refine ⟨C, rfl, ⟨_, .of hC⟩, for_list (xs := us) (fun i σ H' => (∃ y x, σ = [some (.ref a), some (.ref nm), y, x]) ∧ Same H6 H' ∧ firstBelow num (cs.take i) = none) ⟨⟨_, _, rfl⟩, Same.refl _, rfl⟩ (fun i σ H' _ h => .of (h.2.1 _ _ hC)) (fun i x σ H' hx h => ?_) (fun σ H' h => ?_)⟩
      · obtain ⟨⟨y, x', rfl⟩, sx, hf⟩ := h
        obtain ⟨r, er, hr'⟩ := paired_get hPu hx
        have etk : cs.take (i + 1) = cs.take i ++ [r] := by rw [List.take_add_one, er]; rfl
        have hN' := sx _ _ (s6 _ _ (s5 _ _ hN))
        refine ⟨_, rfl, _, rfl, _, _, num, r, rfl, ⟨nm, rfl, hN'⟩, hr'.mono sx, hok r (List.mem_of_getElem? er), fun H7 s7 => ?_⟩
        refine ⟨_, _, rfl, rfl, _, rfl, ?_⟩
        have hfs := firstBelow_snoc num (cs.take i) r hf
        by_cases hn : sgnAt num r < 0
        · refine ifT (decide_eq_true hn) ?_
          refine ⟨_, rfl, q _ _ (s123.trans (s5.trans (s6.trans (sx.trans s7)))) ?_⟩
          have e : firstBelow num cs = some r := by
            rw [← List.take_append_drop (i + 1) cs]
            exact firstBelow_app _ _ _ _ (by rw [etk, hfs, if_pos hn])
          rw [e]
          exact (hr'.mono sx).mono s7
        · refine ifF (decide_eq_false hn) ⟨⟨_, _, rfl⟩, sx.trans s7, ?_⟩
          rw [etk, hfs, if_neg hn]
      · obtain ⟨⟨y, x', rfl⟩, sx, hf⟩ := h
        rw [lus, List.take_length] at hf
        exact ⟨hf, s123.trans (s5.trans (s6.trans sx))⟩
    · obtain ⟨hf, s5⟩ := hM
      refine q _ _ s5 ?_
      rw [hf]
      rfl
theorem h_gap_sums (T : Txt K mg) {k : Nat} (G_ratio_gap : Has P w K mg base "ratio_gap" ["one", "other"] k (sp_ratio_gap K)) : Has P w K mg base "gap_sums" ["one", "other"] (k + 1) (sp_gap_sums K) := by
  refine has_of T.d_gap_sums sc_gap_sums (fun vs H Q E h => ?_) (fun f cdv A outer s H vs Q E hr h => ?_)
  · obtain ⟨v, u, ps, rs, rfl, _⟩ := h
    rfl
  · obtain ⟨v, u, ps, rs, rfl, ⟨a, vs, rfl, hA, hP⟩, ⟨b, us, rfl, hB, hPb⟩, hlen, hl1, hs1, hs2, q⟩ := h
    have lvs : vs.length = ps.length := hP.length
    have lus : us.length = rs.length := hPb.length
    refine ⟨_, (pss_one (ps_ret (pe_lc (own := [("a", 2), ("b", 3)]) (g := (gTup K 2 (gCons (gName 2) (gCons (gName 3) gNil)))) rfl sc_gap_sums.nd (pi_zip (by rfl) T.b_zip (pa_cons (pv 0) (pa_cons (pv 1) pa_nil))) (blkOk_by (own := [("a", 2), ("b", 3)]) (N := ["one", "other", "a", "b"]) (sc := defScope s_gap_sums) (by decide +kernel)) (fun _ _ _ _ _ => (pg_tup rfl (pgs_cons (pg_name (i := 2) sc_gap_sums.nd rfl (.inl rfl) (hf := .inr rfl)) (pgs_cons (pg_name (i := 3) sc_gap_sums.nd rfl (.inl rfl) (hf := .inr rfl)) pgs_nil)))) (fun _ _ _ _ _ => pts_nil) (fun _ _ _ _ _ => (pe_callH G_ratio_gap hr (by rfl) (pa_cons (pv 2) (pa_cons (pv 3) pa_nil))))))), ?_⟩
    refine ⟨_, rfl, _, rfl, a, b, _, _, rfl, .of hA, .of hB, fun D hD => lcZ (xs := vs) (ys := us) (n := ps.length) (fun i v H' => ∃ x : Rat, (ps.zipWith (· - ·) rs)[i]? = some x ∧ IsQ K H' v x) (by omega) (by omega) hD hA hB (fun i v H H' g ⟨x, e, h⟩ => ⟨x, e, h.gr g⟩) (fun i x y T' H' hx hy s4 hT Qk Nx k => ?_) (fun H1 ws s1 hW hl hv => ?_)⟩
    · obtain ⟨r1, er1, hr1⟩ := paired_get hP hx
      obtain ⟨r2, er2, hr2⟩ := paired_get hPb hy
      refine ⟨T', _, rfl, .of hT, rfl, _, _, rfl, _, _, rfl, rfl, ?_⟩
      refine yesE rfl ?_
      have q1 := hs1 r1 (List.mem_of_getElem? er1)
      have q2 := hs2 r2 (List.mem_of_getElem? er2)
      refine ⟨_, rfl, _, rfl, _, _, r1, r2, rfl, (hr1.mono s4).n, (hr2.mono s4).n, ⟨q1.1, q1.2, q2.1, q2.2⟩, fun v3 H3 s3 h3 => ?_⟩
      refine k _ _ s3 ⟨r1 - r2, ?_, h3⟩
      rw [List.getElem?_zipWith, er1, er2]
    · refine q _ _ s1 ⟨D, ws, rfl, hW, paired_of (by rw [hl, List.length_zipWith]; omega) fun i v y e1 e2 => ?_⟩
      obtain ⟨x, e3, h3⟩ := hv i v e1
      rw [e2] at e3
      cases e3
      exact h3
theorem all_true (n : Nat) : (List.replicate n true).all id = true := by
  rw [List.all_eq_true]
  intro x hx
  rw [List.eq_of_mem_replicate hx]
  rfl
theorem h_told_polynomial (T : Txt K mg) {k : Nat} (G_is_ratio : Has P w K mg base "is_ratio" ["number"] k (sp_is_ratio K)) (G_ratio_of : Has P w K mg base "ratio_of" ["number"] k (sp_ratio_of K)) : Has P w K mg base "told_polynomial" ["value"] (k + 1) (sp_told_polynomial K) := by
  refine has_of T.d_told_polynomial sc_told_polynomial (fun vs H Q E h => ?_) (fun f cdv A outer s H vs Q E hr h => ?_)
  · obtain ⟨v, ps, rfl, _⟩ := h
    rfl
  · obtain ⟨v, ps, rfl, ⟨a, vs, rfl, hA, hP⟩, hlen, q⟩ := h
    have lvs : vs.length = ps.length := hP.length
    refine ⟨_, (Evl.pss_cut (ps_if (PW.pt (pw_or (pt_not (pt_val (pe_callB call_isi (by rfl) T.b_isinstance (by decide +kernel) (pa_cons (pv 0) (pa_cons (pe_bltn (v := .ty "tuple") (by rfl) T.b_tuple (by decide +kernel) rfl) pa_nil))))) (pw_or1 (pt_not (pt_val (pe_callB (cr_all rfl) (by rfl) T.b_all (by decide +kernel) (pa_cons (pe_lc (own := [("one", 1)]) (g := (gName 1)) rfl sc_told_polynomial.nd (pi_tup (pv 0)) (blkOk_by (own := [("one", 1)]) (N := ["value", "one"]) (sc := defScope s_told_polynomial) (by decide +kernel)) (fun _ _ _ _ _ => (pg_name (i := 1) sc_told_polynomial.nd rfl (.inl rfl) (hf := .inr rfl))) (fun _ _ _ _ _ => pts_nil) (fun _ _ _ _ _ => (pe_callH G_is_ratio hr (by rfl) (pa_cons (pv 1) pa_nil)))) pa_nil))))))) (pss_one ps_never) pss_nil) (pss_one (ps_ret (pe_lc (own := [("one", 1)]) (g := (gName 1)) rfl sc_told_polynomial.nd (pi_tup (pv 0)) (blkOk_by (own := [("one", 1)]) (N := ["value", "one"]) (sc := defScope s_told_polynomial) (by decide +kernel)) (fun _ _ _ _ _ => (pg_name (i := 1) sc_told_polynomial.nd rfl (.inl rfl) (hf := .inr rfl))) (fun _ _ _ _ _ => pts_nil) (fun _ _ _ _ _ => (pe_callH G_ratio_of hr (by rfl) (pa_cons (pv 1) pa_nil))))))), ?_⟩
    refine ⟨fun σ H' => (∃ y, σ = [some (.ref a), y]) ∧ Same H H', ?_, fun σ H1 hM => ?_⟩
    · refine ⟨_, rfl, _, _, .type "tuple", _, true, rfl, .ty _, ty_tup hA, kit_ty (by decide +kernel), true, rfl, ?_⟩
      refine iteF ?_
      refine ⟨_, rfl, a, rfl, ⟨_, hA⟩, fun D hD => lcT (xs := vs) (fun i v H' => v = .bl true) (by omega) hD hA (fun i v H H' g h => h) (fun i x H' hx s4 Qk Nx k => ?_) (fun H1 ws s1 hW hl hv => ?_)⟩
      · obtain ⟨r, er, hr'⟩ := paired_get hP hx
        refine yesE rfl ?_
        exact ⟨_, rfl, _, r, rfl, hr'.mono s4, k _ _ (Same.refl _) rfl⟩
      · have e : ws = (List.replicate vs.length true).map V.bl := by
          refine List.ext_getElem? fun i => ?_
          rw [List.getElem?_map, List.getElem?_replicate]
          cases e : ws[i]? with
          | none => rw [if_neg (by have := List.getElem?_eq_none_iff.mp e; omega)]; rfl
          | some v =>
            rw [hv i v e, if_pos (by have := (List.getElem?_eq_some_iff.mp e).1; omega)]
            rfl
        rw [e] at hW
        refine ⟨D, _, rfl, .of hW, _, rfl, ?_⟩
        rw [all_true]
        refine iteF ?_
        exact ⟨⟨_, rfl⟩, s1⟩
    · obtain ⟨⟨y, rfl⟩, s1⟩ := hM
      have hA1 := Same.t s1 hA
      refine ⟨_, rfl, a, rfl, ⟨_, hA1⟩, fun D hD => lcT (xs := vs) (fun i v H' => ∃ x : Rat, ps[i]? = some x ∧ IsQ K H' v x) (by omega) hD hA1 (fun i v H H' g ⟨x, e, h⟩ => ⟨x, e, h.gr g⟩) (fun i x H' hx s4 Qk Nx k => ?_) (fun H2 ws s2 hW hl hv => ?_)⟩
      · obtain ⟨r, er, hr'⟩ := paired_get hP hx
        refine yesE rfl ?_
        exact ⟨_, rfl, _, r, rfl, hr'.mono (s1.trans s4), fun v3 H3 s3 h3 => k _ _ s3 ⟨r, er, h3⟩⟩
      · refine q _ _ (s1.trans s2) ⟨D, ws, rfl, hW, paired_of (by omega) fun i v y e1 e2 => ?_⟩
        obtain ⟨x, e3, h3⟩ := hv i v e1
        rw [e2] at e3
        cases e3
        exact h3
theorem padded_len (qs : List Rat) (n : Nat) (h : qs.length ≤ n) : (padded qs n).length = n := by
  unfold padded
  rw [List.length_append, List.length_replicate]
  omega
theorem qsm_zero : QSm 0 := ⟨sm_small (by decide), sm_small (by decide)⟩
theorem padded_sm {qs : List Rat} {n : Nat} (h : ∀ q ∈ qs, QSm q) : ∀ q ∈ padded qs n, QSm q := fun q hq => by
  rcases List.mem_append.mp hq with h1 | h1
  · exact h q h1
  · rw [List.eq_of_mem_replicate h1]
    exact qsm_zero
/-- the zeros behind a row -/
theorem pad_pair {K : PySem.W.Frag} {H : Hp} {aN : Addr} (hN : SqT K H aN [.int 0, .int 1]) {vs ws : List V} {ps : List Rat} {n : Nat} (hP : Paired (IsQ K H) vs ps) (hw : ∀ (i : Nat) (v : V), ws[i]? = some v → v = .ref aN) (hl : ws.length = n - ps.length) :
    Paired (IsQ K H) (vs ++ ws) (padded ps n) := by
  refine paired_app hP (paired_of (by rw [hl, List.length_replicate]) fun i v y e1 e2 => ?_)
  rw [hw i v e1]
  have e3 := List.eq_of_mem_replicate (List.mem_of_getElem? e2)
  subst e3
  exact ⟨aN, rfl, hN⟩
theorem h_never_worse (T : Txt K mg) {k : Nat} (G_never_below : Has P w K mg base "never_below" ["row"] k (sp_never_below K)) (G_told_polynomial : Has P w K mg base "told_polynomial" ["value"] k (sp_told_polynomial K)) (G_gap_sums : Has P w K mg base "gap_sums" ["one", "other"] k (sp_gap_sums K)) : Has P w K mg base "never_worse" ["one", "two"] (k + 1) (sp_never_worse K) := by
  obtain ⟨aN, mN, hN⟩ := T.none0
  refine has_of T.d_never_worse sc_never_worse (fun vs H Q E h => ?_) (fun f cdv A outer s H vs Q E hr h => ?_)
  · obtain ⟨v, u, ps, rs, out, rfl, _⟩ := h
    rfl
  · obtain ⟨v, u, ps, rs, out, rfl, hv, hu, nw, q⟩ := h
    have l1 := nw.lp
    have l2 := nw.lr
    refine ⟨_, (pss_cons (ps_par (i := 2) (j := 3) (by rfl) sc_never_worse.nd rfl rfl (by decide) rfl rfl (pa_cons (pe_callH G_told_polynomial hr (by rfl) (pa_cons (pv 0) pa_nil)) (pa_cons (pe_callH G_told_polynomial hr (by rfl) (pa_cons (pv 1) pa_nil)) pa_nil)) (by rfl)) (pss_cons (ps_set (i := 4) sc_never_worse.nd rfl (.inl rfl) (pe_callB (cr_max rfl) (by rfl) T.b_max (by decide +kernel) (pa_cons (pe_lst (pa_cons (pe_callB call_len_seq (by rfl) T.b_len PySem.boot_len (pa_cons (pv 2) pa_nil)) (pa_cons (pe_callB call_len_seq (by rfl) T.b_len PySem.boot_len (pa_cons (pv 3) pa_nil)) pa_nil))) pa_nil))) (pss_cons (ps_set (i := 2) sc_never_worse.nd rfl (.inl rfl) (pe_op op_cat (pv 2) (pe_lc (own := [("k", 5)]) (g := (gName 5)) rfl sc_never_worse.nd (pi_range1 (by rfl) T.b_range (pa_cons (pe_op op_sub (pv 4) (pe_callB call_len_seq (by rfl) T.b_len PySem.boot_len (pa_cons (pv 2) pa_nil))) pa_nil)) (blkOk_by (own := [("k", 5)]) (N := ["one", "two", "first", "second", "many", "k"]) (sc := defScope s_never_worse) (by decide +kernel)) (fun _ _ _ _ _ => (pg_name (i := 5) sc_never_worse.nd rfl (.inl rfl) (hf := .inr rfl))) (fun _ _ _ _ _ => pts_nil) (fun _ _ _ _ _ => (pe_glob (v := .ref aN) (by rfl) mN rfl))))) (pss_cons (ps_set (i := 3) sc_never_worse.nd rfl (.inl rfl) (pe_op op_cat (pv 3) (pe_lc (own := [("k", 5)]) (g := (gName 5)) rfl sc_never_worse.nd (pi_range1 (by rfl) T.b_range (pa_cons (pe_op op_sub (pv 4) (pe_callB call_len_seq (by rfl) T.b_len PySem.boot_len (pa_cons (pv 3) pa_nil))) pa_nil)) (blkOk_by (own := [("k", 5)]) (N := ["one", "two", "first", "second", "many", "k"]) (sc := defScope s_never_worse) (by decide +kernel)) (fun _ _ _ _ _ => (pg_name (i := 5) sc_never_worse.nd rfl (.inl rfl) (hf := .inr rfl))) (fun _ _ _ _ _ => pts_nil) (fun _ _ _ _ _ => (pe_glob (v := .ref aN) (by rfl) mN rfl))))) (pss_one (ps_ret (pe_callH G_never_below hr (by rfl) (pa_cons (pe_callH G_gap_sums hr (by rfl) (pa_cons (pv 2) (pa_cons (pv 3) pa_nil))) pa_nil)))))))), ?_⟩
    refine ⟨_, rfl, _, ps, rfl, hv, by omega, fun z1 H1 s1 hz1 => ?_⟩
    have hu1 : IsT K (IsN K H1) H1 u rs := by
      obtain ⟨p, us, rfl, ht, hp⟩ := hu
      exact ⟨p, us, rfl, Same.t s1 ht, paired_mono hp fun _ _ r => r.mono s1⟩
    refine ⟨_, rfl, _, rs, rfl, hu1, by omega, fun z2 H2 s2 hz2 => ?_⟩
    obtain ⟨F, fs, rfl, hF, hPF⟩ := hz1
    obtain ⟨G, gs, rfl, hG, hPG⟩ := hz2
    have lF : fs.length = ps.length := hPF.length
    have lG : gs.length = rs.length := hPG.length
    refine ⟨_, _, rfl, ?_⟩
    -- many
    refine ⟨_, rfl, F, _, rfl, .inl (.of (s2 _ _ hF)), _, rfl, G, _, rfl, .inl (.of hG), by show 2 ≤ sizeLine; decide, fun p hp => ?_⟩
    have s3 := same_new (o := .lst [.int (fs.length : Nat), .int (gs.length : Nat)]) hp
    refine ⟨p, [(fs.length : Int), (gs.length : Int)], rfl, .of upd_same, Nat.succ_pos _, fun m hm hmx => ?_⟩
    have em : m = ((max ps.length rs.length : Nat) : Int) := by
      have h1 := hmx _ List.mem_cons_self
      have h2 := hmx _ (List.mem_cons_of_mem _ List.mem_cons_self)
      have h3 : m = (fs.length : Int) ∨ m = (gs.length : Int) := by simpa using hm
      rw [← lF, ← lG]
      omega
    subst em
    generalize hmany : max ps.length rs.length = many
    have s23 := s2.trans s3
    have hF3 := s23 _ _ hF
    have hG3 := s3 _ _ hG
    -- first
    refine ⟨_, rfl, _, rfl, _, rfl, F, _, rfl, .inl (.of hF3), _, _, rfl, rfl, _, rfl, by omega, by omega, fun D hD => lcN (n := ((many : Int) - (fs.length : Int)).toNat) (fun i v _ => v = .ref aN) (by omega) hD (fun _ _ _ _ _ h => h) (fun i H' hi s4 Qk Nx k => ?_) (fun H4 ws s4 hW hl hv => ?_)⟩
    · refine yesE rfl ?_
      exact k _ _ (Same.refl _) rfl
    have hF4 := s4 _ _ hF3
    refine ⟨F, D, _, _, rfl, rfl, hF4, hW, ?_, fun F2 hF2 => ?_⟩
    · rw [hl]
      show fs.length + ((many : Int) - (fs.length : Int)).toNat ≤ sizeLine
      exact Nat.le_trans (show _ ≤ 1000 by omega) (by decide)
    have s5 := same_new (o := .lst (fs ++ ws)) hF2
    have s45 := s4.trans s5
    have hG5 := s45 _ _ hG3
    -- second
    refine ⟨_, rfl, _, rfl, _, rfl, G, _, rfl, .inl (.of hG5), _, _, rfl, rfl, _, rfl, by omega, by omega, fun D2 hD2 => lcN (n := ((many : Int) - (gs.length : Int)).toNat) (fun i v _ => v = .ref aN) (by omega) hD2 (fun _ _ _ _ _ h => h) (fun i H' hi s4 Qk Nx k => ?_) (fun H6 ws2 s6 hW2 hl2 hv2 => ?_)⟩
    · refine yesE rfl ?_
      exact k _ _ (Same.refl _) rfl
    have hG6 := s6 _ _ hG5
    refine ⟨G, D2, _, _, rfl, rfl, hG6, hW2, ?_, fun G2 hG2 => ?_⟩
    · rw [hl2]
      show gs.length + ((many : Int) - (gs.length : Int)).toNat ≤ sizeLine
      exact Nat.le_trans (show _ ≤ 1000 by omega) (by decide)
    have s7 := same_new (o := .lst (gs ++ ws2)) hG2
    have s67 := s6.trans s7
    have hF7 := s67 _ _ (upd_same (H := H4) (a := F2) (o := .lst (fs ++ ws)))
    have hP1 : Paired (IsQ K _) (fs ++ ws) (padded ps many) := pad_pair (hN _) (paired_mono hPF fun _ _ r => r.mono (s2.trans (s3.trans (s45.trans s67)))) hv (by rw [hl]; omega)
    have hP2 : Paired (IsQ K _) (gs ++ ws2) (padded rs many) := pad_pair (hN _) (paired_mono hPG fun _ _ r => r.mono (s3.trans (s45.trans s67))) hv2 (by rw [hl2]; omega)
    have e1 := padded_len ps many (by omega)
    have e2 := padded_len rs many (by omega)
    refine ⟨_, rfl, _, rfl, _, _, padded ps many, padded rs many, rfl, ⟨F2, _, rfl, hF7, hP1⟩, ⟨G2, _, rfl, upd_same, hP2⟩, by omega, by omega, padded_sm nw.sp, padded_sm nw.sr, fun z8 H8 s8 hz8 => ?_⟩
    have eg : (padded ps many).zipWith (· - ·) (padded rs many) = gaps ps rs := by
      unfold gaps
      rw [hmany]
    rw [eg] at hz8
    refine ⟨_, gaps ps rs, out, rfl, hz8, by rw [← eg, List.length_zipWith]; omega, fun q hq => nw.sd q hq, nw.sc, nw.nb, fun z9 H9 s9 hz9 => ?_⟩
    exact q _ _ (s1.trans (s23.trans (s45.trans (s67.trans (s8.trans s9))))) hz9
end
end Kq

set_option Elab.async false
set_option linter.all false
set_option maxRecDepth 100000
set_option maxHeartbeats 4000000
/-! the law's source of draws -/
namespace Kq
open PySem PySem.Spec PyProof.Rows L2
/-! ### the pen -/
def penKs (c : Addr) (a dg n f : Int) : List (Key × V) := [(Sum.inr "cells", .ref c), (Sum.inr "at", .int a), (Sum.inr "digits", .int dg), (Sum.inr "count", .int n), (Sum.inr "fold", .int f)]
def IsPen (c : Addr) (H : Hp) (d : Addr) (k : Nat) : Prop := ∃ (cells : List Int) (a dg n f : Int), H d = some (.dK (penKs c a dg n f)) ∧ H c = some (.lst (cells.map V.int)) ∧ 0 ≤ a ∧ 0 ≤ dg ∧ 0 ≤ n ∧ n ≤ (k : Int) ∧ 0 ≤ f ∧ f < 2147483648
/-- all that was tracked is as it was, but at d -/
def But (d : Addr) (H H' : Hp) : Prop := ∀ b o, b ≠ d → H b = some o → H' b = some o
theorem But.refl (d : Addr) (H : Hp) : But d H H := fun _ _ _ h => h
theorem But.trans {d : Addr} {H H1 H2 : Hp} (a : But d H H1) (b : But d H1 H2) : But d H H2 := fun c o n h => b c o n (a c o n h)
theorem Same.but {H H' : Hp} (d : Addr) (e : Same H H') : But d H H' := fun b o _ h => e b o h
theorem but_upd {d : Addr} {H : Hp} {o : HO} : But d H (upd H d o) := fun b u n e => by
  rw [upd_ne n]
  exact e
theorem IsPen.more {c : Addr} {H : Hp} {d : Addr} {k j : Nat} (h : IsPen c H d k) (l : k ≤ j) : IsPen c H d j := by
  obtain ⟨cells, a, dg, n, f, h1, h2, h3, h4, h5, h6, h7⟩ := h
  exact ⟨cells, a, dg, n, f, h1, h2, h3, h4, h5, by omega, h7⟩
theorem IsPen.same {c : Addr} {H H' : Hp} {d : Addr} {k : Nat} (e : Same H H') (h : IsPen c H d k) : IsPen c H' d k := by
  obtain ⟨cells, a, dg, n, f, h1, h2, h3⟩ := h
  exact ⟨cells, a, dg, n, f, e _ _ h1, e _ _ h2, h3⟩
section
variable {H : Hp} {d c : Addr} {a dg n f x : Int}
theorem pg_cells (h : H d = some (.dK (penKs c a dg n f))) : DGet H d (.str "cells") (some (.ref c)) := DGet.k (k := Sum.inr "cells") h
theorem pg_at (h : H d = some (.dK (penKs c a dg n f))) : DGet H d (.str "at") (some (.int a)) := DGet.k (k := Sum.inr "at") h
theorem pg_digits (h : H d = some (.dK (penKs c a dg n f))) : DGet H d (.str "digits") (some (.int dg)) := DGet.k (k := Sum.inr "digits") h
theorem pg_count (h : H d = some (.dK (penKs c a dg n f))) : DGet H d (.str "count") (some (.int n)) := DGet.k (k := Sum.inr "count") h
theorem pg_fold (h : H d = some (.dK (penKs c a dg n f))) : DGet H d (.str "fold") (some (.int f)) := DGet.k (k := Sum.inr "fold") h
theorem pen_len : (penKs c a dg n f).length < sizeLine := small1000 (by show 5 ≤ 1000; decide)
theorem pp_at (h : H d = some (.dK (penKs c a dg n f))) : DPut H d (.str "at") (.int x) (upd H d (.dK (penKs c x dg n f))) := DPut.k (k := Sum.inr "at") h pen_len
theorem pp_digits (h : H d = some (.dK (penKs c a dg n f))) : DPut H d (.str "digits") (.int x) (upd H d (.dK (penKs c a x n f))) := DPut.k (k := Sum.inr "digits") h pen_len
theorem pp_count (h : H d = some (.dK (penKs c a dg n f))) : DPut H d (.str "count") (.int x) (upd H d (.dK (penKs c a dg x f))) := DPut.k (k := Sum.inr "count") h pen_len
theorem pp_fold (h : H d = some (.dK (penKs c a dg n f))) : DPut H d (.str "fold") (.int x) (upd H d (.dK (penKs c a dg n x))) := DPut.k (k := Sum.inr "fold") h pen_len
end
theorem pen_ne {H : Hp} {d c : Addr} {xs : List V} {kvs : List (Key × V)} (h1 : H d = some (.dK kvs)) (h2 : H c = some (.lst xs)) : c ≠ d := ne_of h2 h1 (by intro z; cases z)
/-! ### promises -/
def sp_L_pen (K : PySem.W.Frag) : Sp := fun vs H Q _ => ∃ (a : Addr) (ns : List Int), vs = [.ref a] ∧ SqL K H a (ns.map V.int) ∧ ns.length ≤ 63 ∧ ∀ c d H', Same H H' → H d = none → IsPen c H' d 0 → Q (.ref d) H'
def sp_L_draw : Sp := fun vs H Q _ => ∃ (c d : Addr) (many : Int) (k : Nat), vs = [.ref d, .int many] ∧ IsPen c H d k ∧ 0 < many ∧ k ≤ 100000 ∧ ∀ r H', 0 ≤ r → r < many → But d H H' → IsPen c H' d (k + 1) → Q (.int r) H'
section
variable {P : Program} {w : World} {K : PySem.W.Frag} {mg : Str → Option Value} {base : Heap}
theorem fmod_pos {x y : Int} (h : 0 < y) : 0 ≤ Int.fmod x y ∧ Int.fmod x y < y := by
  rw [Int.fmod_eq_emod_of_nonneg x (by omega)]
  exact ⟨Int.emod_nonneg x (by omega), Int.emod_lt_of_pos x h⟩
theorem h_L_pen (T : Txt K mg) {k : Nat} : Has P w K mg base "_law_pen" ["_law_script"] (k + 1) (sp_L_pen K) := by
  refine has_of T.d_L_pen sc_L_pen (fun vs H Q E h => ?_) (fun f cdv A outer s H vs Q E hr h => ?_)
  · obtain ⟨a, ns, rfl, _⟩ := h
    rfl
  · obtain ⟨a, ns, rfl, hS, hl, q⟩ := h
    refine ⟨_, (pss_cons (ps_set (i := 1) sc_L_pen.nd rfl (.inl rfl) pe_int) (Evl.pss_cut (ps_for PassesOwn.never rfl (pi_list (pv 0)) (pg_name (i := 2) sc_L_pen.nd rfl (.inl rfl)) (pss_one (ps_set (i := 1) sc_L_pen.nd rfl (.inl rfl) (pe_op op_modN (pe_callTy call_int1 (by rfl) T.b_int (by decide +kernel) (pa_cons (pe_op op_add (pe_op op_mulX (pv 1) pe_int) (pv 2)) pa_nil)) pe_int)))) (pss_one (ps_ret (pe_disp (pps_cons pe_str (pe_callTy call_list_of (by rfl) T.b_list (by decide +kernel) (pa_cons (pv 0) pa_nil)) (pps_cons pe_str pe_int (pps_cons pe_str pe_int (pps_cons pe_str pe_int (pps_cons pe_str (pv 1) pps_nil))))) (by rfl) (by rfl) (fun z => by cases z) (by decide)))))), ?_⟩
    refine ⟨fun σ H' => (∃ f y, σ = [some (.ref a), some (.int f), y] ∧ 0 ≤ f ∧ f < 1000000007) ∧ H' = H, ?_, fun σ H' hM => ?_⟩
    · refine ⟨_, rfl, a, rfl, ⟨_, hS⟩, for_list (xs := ns.map V.int) (fun i σ H' => (∃ f y, σ = [some (.ref a), some (.int f), y] ∧ 0 ≤ f ∧ f < 1000000007) ∧ H' = H) ⟨⟨0, _, rfl, by decide, by decide⟩, rfl⟩ (fun i σ H' _ h => by rw [h.2]; exact hS) (fun i x σ H' hx h => ?_) (fun σ H' h => h)⟩
      obtain ⟨⟨f, y, rfl, f0, f1⟩, rfl⟩ := h
      rw [List.getElem?_map] at hx
      obtain ⟨z, ez, rfl⟩ := Option.map_eq_some_iff.mp hx
      refine ⟨_, rfl, _, _, rfl, rfl, mulx_ok (a := 64) (b := 64) (by omega) (by decide) (by decide), _, rfl, _, _, rfl, rfl, .inl ⟨_, rfl, _, _, rfl, rfl, by show (1000000007 : Int) ≠ 0; decide, ?_⟩⟩
      have h := fmod_pos (x := f * 43 + z) (y := 1000000007) (by decide)
      exact ⟨⟨_, _, rfl, h.1, h.2⟩, rfl⟩
    · obtain ⟨⟨f, y, rfl, f0, f1⟩, rfl⟩ := hM
      intro d hd
      have s1 := same_new (o := .dK []) hd
      refine ⟨_, rfl, a, _, rfl, .inl (s1.seq hS), fun c hc => ?_⟩
      have ndc : d ≠ c := ne_of_none (upd_same (H := H') (a := d) (o := .dK [])) hc
      refine ⟨_, rfl, by rw [upd_ne ndc]; exact upd_same, penKs c 0 0 0 f, rfl, by show 5 ≤ 15; decide, ?_⟩
      have hm : mergeK [] (penKs c 0 0 0 f) = penKs c 0 0 0 f := rfl
      rw [hm]
      refine q c d _ (same_mut (s1.trans (same_new hc)) hd) hd ⟨ns, 0, 0, 0, f, upd_same, ?_, by decide, by decide, by decide, by decide, f0, by omega⟩
      rw [upd_ne ndc.symm]
      exact upd_same
theorem h_L_draw (T : Txt K mg) (B : BaseOk P base) {k : Nat} (hk : 32 ≤ k) : Has P w K mg base "_law_draw" ["_law_pen_here", "_law_many"] (k + 1) sp_L_draw := by
  refine has_of T.d_L_draw sc_L_draw (fun vs H Q E h => ?_) (fun f cdv A outer s H vs Q E hr h => ?_)
  · obtain ⟨c, d, many, n, rfl, _⟩ := h
    rfl
  · obtain ⟨c, d, many, n, rfl, ⟨cells, at', dg, cn, fo, hd, hc, a0, d0, n0, n1, f0, f1⟩, hm, hn, q⟩ := h
    have SX : Seer (cxOf CX0 P w K mg base ["_law_pen_here", "_law_many", "_law_cell", "_law_digit", "_law_mixed"] "_law_draw" (defScope s_L_draw) f cdv A outer s H E).nox := seer_cx B hr hk rfl rfl
    refine ⟨_, (pss_cons (ps_dput (hu_of hr) (pv 0) pe_str (pe_op op_add (pe_dget (hu_of hr) (pv 0) pe_str (fun _ _ => rfl)) pe_int) rfl) (Evl.pss_cut (ps_if (PW.pt (pw_and (pt_cmpR op_eq (pe_dget (hu_of hr) (pv 0) pe_str (fun _ _ => rfl)) pe_int (nomark _)) (pw_and1 (pt_cmpR op_lt (pe_dget (hu_of hr) (pv 0) pe_str (fun _ _ => rfl)) (pe_callB call_len_seq (by rfl) T.b_len PySem.boot_len (pa_cons (pe_dget (hu_of hr) (pv 0) pe_str (fun _ _ => rfl)) pa_nil)) (nomark _))))) (pss_cons (ps_set (i := 2) sc_L_draw.nd rfl (.inl rfl) (pe_ix ix_list (pe_dget (hu_of hr) (pv 0) pe_str (fun _ _ => rfl)) (pe_dget (hu_of hr) (pv 0) pe_str (fun _ _ => rfl)) (fun _ _ => rfl))) (pss_cons (ps_dput (hu_of hr) (pv 0) pe_str (pe_op op_add (pe_dget (hu_of hr) (pv 0) pe_str (fun _ _ => rfl)) pe_int) rfl) (pss_one (ps_if (pt_cmpR op_ge (pv 2) (pe_op op_pow pe_int pe_int) (nomark _)) (pss_one (ps_dput (hu_of hr) (pv 0) pe_str (pe_op op_sub (pv 2) (pe_op op_pow pe_int pe_int)) rfl)) (pss_one (ps_dput (hu_of hr) (pv 0) pe_str (pe_op op_modN (pe_callTy call_int1 (by rfl) T.b_int (by decide +kernel) (pa_cons (pe_op op_add (pe_op op_mulX (pe_dget (hu_of hr) (pv 0) pe_str (fun _ _ => rfl)) pe_int) (pv 2)) pa_nil)) pe_int) rfl)))))) pss_nil) (Evl.pss_cut (ps_if (pt_cmpR op_gt (pe_dget (hu_of hr) (pv 0) pe_str (fun _ _ => rfl)) pe_int (nomark _)) (pss_cons (ps_set (i := 3) sc_L_draw.nd rfl (.inl rfl) (pe_op op_modN (pe_callTy call_int1 (by rfl) T.b_int (by decide +kernel) (pa_cons (pe_dget (hu_of hr) (pv 0) pe_str (fun _ _ => rfl)) pa_nil)) (pv 1))) (pss_cons (ps_dput (hu_of hr) (pv 0) pe_str (pe_op (op_fdivS SX) (pe_dget (hu_of hr) (pv 0) pe_str (fun _ _ => rfl)) (pv 1)) rfl) (pss_one (ps_ret (pv 3))))) pss_nil) (pss_cons (ps_set (i := 4) sc_L_draw.nd rfl (.inl rfl) (pe_op op_add (pe_op op_add (pe_dget (hu_of hr) (pv 0) pe_str (fun _ _ => rfl)) (pe_op op_mulX (pe_dget (hu_of hr) (pv 0) pe_str (fun _ _ => rfl)) pe_int)) pe_int)) (pss_one (ps_ret (pe_op op_modN (pe_op (op_fdivS SX) (pe_callTy call_int1 (by rfl) T.b_int (by decide +kernel) (pa_cons (pe_op op_modN (pe_op op_pow (pv 4) pe_int) pe_int) pa_nil)) pe_int) (pv 1)))))))), ?_⟩
    -- count
    refine ⟨_, rfl, d, _, rfl, pg_count hd, _, _, rfl, rfl, _, rfl, d, _, rfl, pp_count hd, ?_⟩
    have hcd := pen_ne hd hc
    have b1 : But d H (upd H d (.dK (penKs c at' dg (cn + 1) fo))) := but_upd
    have hd1 : (upd H d (.dK (penKs c at' dg (cn + 1) fo))) d = some (.dK (penKs c at' dg (cn + 1) fo)) := upd_same
    have hc1 : (upd H d (.dK (penKs c at' dg (cn + 1) fo))) c = some (.lst (cells.map V.int)) := by rw [upd_ne hcd]; exact hc
    have n0' : 0 ≤ cn + 1 := by omega
    have n1' : cn + 1 ≤ ((n + 1 : Nat) : Int) := by omega
    generalize upd H d (.dK (penKs c at' dg (cn + 1) fo)) = H1 at b1 hd1 hc1
    generalize cn + 1 = cn1 at hd1 n0' n1'
    -- a cell
    refine ⟨fun σ H' => ∃ (y2 : Option V) (a dg f : Int), σ = [some (.ref d), some (.int many), y2, none, none] ∧ But d H H' ∧ H' d = some (.dK (penKs c a dg cn1 f)) ∧ H' c = some (.lst (cells.map V.int)) ∧ 0 ≤ a ∧ 0 ≤ dg ∧ 0 ≤ f ∧ f < 2147483648, ?_, fun σ H2 hM => ?_⟩
    · refine ⟨_, rfl, d, _, rfl, pg_digits hd1, rfl, _, rfl, ?_⟩
      by_cases hz : dg = 0
      · refine ifT (decide_eq_true (by rw [hz])) ?_
        refine ⟨_, rfl, d, _, rfl, pg_at hd1, _, rfl, d, _, rfl, pg_cells hd1, c, _, rfl, .inl (.of hc1), _, _, rfl, rfl, _, rfl, ?_⟩
        rw [List.length_map]
        by_cases hat : at' < (cells.length : Int)
        · refine ifT (decide_eq_true hat) ?_
          obtain ⟨j, rfl⟩ := Int.eq_ofNat_of_zero_le a0
          have hj : j < cells.length := by omega
          refine ⟨_, rfl, d, _, rfl, pg_cells hd1, _, rfl, d, _, rfl, pg_at hd1, c, _, _, _, rfl, rfl, .of hc1, atI_nat (get_int (List.getElem?_eq_getElem hj)), ?_⟩
          refine ⟨_, rfl, d, _, rfl, pg_at hd1, _, _, rfl, rfl, _, rfl, d, _, rfl, pp_at hd1, ?_⟩
          have hd2 : (upd H1 d (.dK (penKs c ((j : Int) + 1) dg cn1 fo))) d = some (.dK (penKs c ((j : Int) + 1) dg cn1 fo)) := upd_same
          have hc2 : (upd H1 d (.dK (penKs c ((j : Int) + 1) dg cn1 fo))) c = some (.lst (cells.map V.int)) := by rw [upd_ne hcd]; exact hc1
          have b2 : But d H (upd H1 d (.dK (penKs c ((j : Int) + 1) dg cn1 fo))) := b1.trans but_upd
          dsimp only
          generalize upd H1 d (.dK (penKs c ((j : Int) + 1) dg cn1 fo)) = H2 at hd2 hc2 b2
          generalize cells[j] = cell
          have p18 : (10 : Int) ^ (18 : Int).toNat = 1000000000000000000 := by decide
          refine ⟨_, rfl, _, _, rfl, rfl, ⟨by decide, by decide, by decide⟩, _, _, rfl, rfl, _, rfl, ?_⟩
          by_cases hge : (10 : Int) ^ (18 : Int).toNat ≤ cell
          · refine ifT (decide_eq_true hge) ?_
            refine ⟨_, rfl, _, _, rfl, rfl, ⟨by decide, by decide, by decide⟩, _, _, rfl, rfl, _, rfl, d, _, rfl, pp_digits hd2, ?_⟩
            refine ⟨_, _, _, _, rfl, b2.trans but_upd, upd_same, by rw [upd_ne hcd]; exact hc2, by omega, by omega, f0, f1⟩
          · refine ifF (decide_eq_false hge) ?_
            refine ⟨_, rfl, d, _, rfl, pg_fold hd2, _, _, rfl, rfl, mulx_ok (a := 64) (b := 64) (by omega) (by decide) (by decide), _, rfl, _, _, rfl, rfl, .inl ⟨_, rfl, _, _, rfl, rfl, by show (2147483587 : Int) ≠ 0; decide, _, rfl, d, _, rfl, pp_fold hd2, ?_⟩⟩
            have h := fmod_pos (x := fo * 69069 + cell) (y := 2147483587) (by decide)
            refine ⟨_, _, _, _, rfl, b2.trans but_upd, upd_same, by rw [upd_ne hcd]; exact hc2, by omega, d0, h.1, by omega⟩
        · refine ifF (decide_eq_false hat) ?_
          exact ⟨_, _, _, _, rfl, b1, hd1, hc1, a0, d0, f0, f1⟩
      · refine ifF (decide_eq_false (fun z => hz (V.int.inj z))) ?_
        refine iteF ?_
        exact ⟨_, _, _, _, rfl, b1, hd1, hc1, a0, d0, f0, f1⟩
    obtain ⟨y2, a, dg, f', rfl, b2, hd2, hc2, a0, d0, f0, f1⟩ := hM
    -- a digit
    refine ⟨fun σ H' => σ = [some (.ref d), some (.int many), y2, none, none] ∧ H' = H2, ?_, fun σ H3 hM => ?_⟩
    · refine ⟨_, rfl, d, _, rfl, pg_digits hd2, _, _, rfl, rfl, _, rfl, ?_⟩
      by_cases hp : 0 < dg
      · refine ifT (decide_eq_true hp) ?_
        refine ⟨_, rfl, d, _, rfl, pg_digits hd2, .inl ⟨_, rfl, _, rfl, _, _, rfl, rfl, by show many ≠ 0; omega, ?_⟩⟩
        refine ⟨_, rfl, d, _, rfl, pg_digits hd2, _, rfl, _, _, rfl, rfl, hm, _, rfl, d, _, rfl, pp_digits hd2, ?_⟩
        have h := fmod_pos (x := dg) hm
        refine ⟨_, rfl, q _ _ h.1 h.2 (b2.trans but_upd) ⟨cells, a, dg / many, cn1, f', upd_same, by rw [upd_ne hcd]; exact hc2, a0, Int.ediv_nonneg d0 (by omega), n0', n1', f0, f1⟩⟩
      · exact ifF (decide_eq_false hp) ⟨rfl, rfl⟩
    obtain ⟨rfl, rfl⟩ := hM
    refine ⟨_, rfl, d, _, rfl, pg_fold hd2, _, rfl, d, _, rfl, pg_count hd2, _, _, rfl, rfl, mulx_ok (a := 64) (b := 64) (by omega) (by decide) (by decide), _, _, rfl, rfl, _, _, rfl, rfl, ?_⟩
    refine ⟨_, rfl, _, _, rfl, rfl, ⟨by decide, by decide, by omega⟩, _, _, rfl, rfl, by show (2305843009213693951 : Int) ≠ 0; decide, .inl ⟨_, rfl, _, _, rfl, rfl, by show (0 : Int) < 128; decide, _, rfl, _, _, rfl, rfl, by show many ≠ 0; omega, ?_⟩⟩
    have h := fmod_pos (x := Int.fmod ((f' + cn1 * 7907 + 37) ^ (17 : Int).toNat) 2305843009213693951 / 128) hm
    exact q _ _ h.1 h.2 b2 ⟨cells, a, dg, cn1, f', hd2, hc2, a0, d0, n0', n1', f0, f1⟩
end
end Kq

set_option Elab.async false
set_option linter.all false
set_option maxRecDepth 100000
set_option maxHeartbeats 4000000
/-! the law's ratios -/
namespace Kq
open PySem PySem.Spec PyProof.Rows L2
/-! ### what stays beside the pen -/
theorem But.gr {d : Addr} {H H' : Hp} {kvs : List (Key × V)} (h : H d = some (.dK kvs)) (e : But d H H') : Gr H H' := fun b o t hb => by
  refine e b o ?_ hb
  rintro rfl
  rw [h] at hb
  cases hb
  exact t
theorem IsPen.gr {c d : Addr} {H H' : Hp} {k : Nat} (h : IsPen c H d k) (e : But d H H') : Gr H H' := by
  obtain ⟨cells, a, dg, n, f, h1, _⟩ := h
  exact e.gr h1
theorem But.lst {c d : Addr} {H H' : Hp} {k : Nat} {l : Addr} {xs : List V} (h : IsPen c H d k) (e : But d H H') (hl : H l = some (.lst xs)) : H' l = some (.lst xs) := by
  obtain ⟨cells, a, dg, n, f, h1, _⟩ := h
  exact e _ _ (ne_of hl h1 (by intro z; cases z)) hl
theorem But.none {c d : Addr} {H H' : Hp} {j : Nat} {l : Addr} (h : IsPen c H' d j) (e : But d H H') (hl : H' l = none) : H l = none := by
  obtain ⟨cells, a, dg, n, f, h1, _⟩ := h
  cases q : H l with
  | none => rfl
  | some o =>
    rw [e _ _ (fun z => by rw [z, h1] at hl; cases hl) q] at hl
    cases hl
/-! ### numbers that are not too large -/
def QB (n : Nat) (q : Rat) : Prop := q.num.natAbs < 2 ^ n ∧ q.den < 2 ^ n
theorem QB.sn {n : Nat} {q : Rat} (h : QB n q) (hn : n ≤ 60000000) : Sm q.num := sm_of h.1 hn
theorem QB.sd {n : Nat} {q : Rat} (h : QB n q) (hn : n ≤ 60000000) : Sm (q.den : Int) := sm_of (by rw [Int.natAbs_natCast]; exact h.2) hn
def sp_L_pick : Sp := fun vs H Q _ => ∃ (c d l : Addr) (xs : List V) (k : Nat), vs = [.ref d, .ref l] ∧ IsPen c H d k ∧ H l = some (.lst xs) ∧ xs ≠ [] ∧ k ≤ 100000 ∧ ∀ v H', v ∈ xs → But d H H' → IsPen c H' d (k + 1) → Q v H'
def sp_L_gcd : Sp := fun vs H Q _ => ∃ (a b : Int) (n : Nat), vs = [.int a, .int b] ∧ b.natAbs < 2 ^ n ∧ n ≤ 29900 ∧ Q (.int (Int.gcd a b : Nat)) H
def sp_L_q : Sp := fun vs H Q _ => ∃ (a b : Int) (n : Nat), vs = [.int a, .int b] ∧ 0 < b ∧ b.natAbs < 2 ^ n ∧ n ≤ 29900 ∧ RetT [.int (Rat.divInt a b).num, .int ((Rat.divInt a b).den : Int)] H Q
def sp_L_two (K : PySem.W.Frag) (f : Rat → Rat → Rat) : Sp := fun vs H Q _ => ∃ (v u : V) (q r : Rat) (n m : Nat), vs = [v, u] ∧ IsQ K H v q ∧ IsQ K H u r ∧ QB n q ∧ QB m r ∧ n + m ≤ 29900 ∧ RetP (fun z H' => IsQ K H' z (f q r)) H Q
def sp_L_less (K : PySem.W.Frag) : Sp := fun vs H Q _ => ∃ (v u : V) (q r : Rat) (n m : Nat), vs = [v, u] ∧ IsQ K H v q ∧ IsQ K H u r ∧ QB n q ∧ QB m r ∧ n + m ≤ 29900 ∧ Q (.bl (decide (q < r))) H
def sp_L_is_ratio (K : PySem.W.Frag) : Sp := fun vs H Q _ => ∃ (v : V) (o : Option Rat), vs = [v] ∧ optV K H v o ∧ (∀ q, o = some q → QB 29900 q) ∧ Q (.bl o.isSome) H
def sp_L_passed (K : PySem.W.Frag) : Sp := fun vs H Q _ => ∃ (c d : Addr) (v : V) (q : Rat) (k : Nat), vs = [.ref d, v] ∧ IsPen c H d k ∧ IsQ K H v q ∧ QB 29900 q ∧ k ≤ 90000 ∧ ∀ z H', IsN K H' z q → But d H H' → IsPen c H' d (k + 2) → Q z H'
section
variable {P : Program} {w : World} {K : PySem.W.Frag} {mg : Str → Option Value} {base : Heap}
theorem h_L_pick (T : Txt K mg) {k : Nat} (G_L_draw : Has P w K mg base "_law_draw" ["_law_pen_here", "_law_many"] k sp_L_draw) : Has P w K mg base "_law_pick" ["_law_pen_here", "_law_some"] (k + 1) sp_L_pick := by
  refine has_of T.d_L_pick sc_L_pick (fun vs H Q E h => ?_) (fun f cdv A outer s H vs Q E hr h => ?_)
  · obtain ⟨c, d, l, xs, n, rfl, _⟩ := h
    rfl
  · obtain ⟨c, d, l, xs, n, rfl, hp, hl, hx, hn, q⟩ := h
    have h0 := List.length_pos_iff.mpr hx
    refine ⟨_, (pss_one (ps_ret (pe_ix ix_list (pv 1) (pe_callH G_L_draw hr (by rfl) (pa_cons (pv 0) (pa_cons (pe_callB call_len_seq (by rfl) T.b_len PySem.boot_len (pa_cons (pv 1) pa_nil)) pa_nil))) (fun _ _ => rfl)))), ?_⟩
    refine ⟨_, rfl, _, rfl, _, rfl, l, _, rfl, .inl (.of hl), c, d, _, n, rfl, hp, by omega, hn, fun r H' r0 r1 b hp' => ?_⟩
    obtain ⟨j, rfl⟩ := Int.eq_ofNat_of_zero_le r0
    have hj : j < xs.length := by omega
    exact ⟨l, _, _, _, rfl, rfl, .of (b.lst hp hl), atI_nat (List.getElem?_eq_getElem hj), q _ _ (List.getElem_mem hj) b hp'⟩
/-- the product falls to less than a half at each turn -/
theorem gcd_half {x y : Int} (hy : 0 < y) (hyx : y ≤ x) : 2 * (y * (x % y)) ≤ x * y ∧ x % y < y ∧ 0 ≤ x % y := by
  have h1 := Int.emod_nonneg x (show y ≠ 0 by omega)
  have h2 := Int.emod_lt_of_pos x hy
  have h3 := Int.emod_add_mul_ediv x y
  have h4 : 1 ≤ x / y := by
    have := Int.ediv_le_ediv hy hyx
    rw [Int.ediv_self (by omega)] at this
    exact this
  have h5 : y * 1 ≤ y * (x / y) := Int.mul_le_mul_of_nonneg_left h4 (by omega)
  have h6 : 2 * (x % y) ≤ x := by omega
  refine ⟨?_, h2, h1⟩
  have h7 : y * (2 * (x % y)) ≤ y * x := Int.mul_le_mul_of_nonneg_left h6 (by omega)
  have h8 : y * (2 * (x % y)) = 2 * (y * (x % y)) := by rw [← Int.mul_assoc, Int.mul_comm y 2, Int.mul_assoc]
  have h9 : y * x = x * y := Int.mul_comm _ _
  omega
theorem h_L_gcd (T : Txt K mg) {k : Nat} : Has P w K mg base "_law_gcd" ["_law_one", "_law_two"] (k + 1) sp_L_gcd := by
  refine has_of T.d_L_gcd sc_L_gcd (fun vs H Q E h => ?_) (fun f cdv A outer s H vs Q E hr h => ?_)
  · obtain ⟨a, b, n, rfl, _⟩ := h
    rfl
  · obtain ⟨a, b, n, rfl, hb, hn, q⟩ := h
    refine ⟨_, (pss_cons (ps_par (i := 0) (j := 1) (by rfl) sc_L_gcd.nd rfl rfl (by decide) rfl rfl (pa_cons (pe_callB call_abs (by rfl) T.b_abs (by decide +kernel) (pa_cons (pv 0) pa_nil)) (pa_cons (pe_callB call_abs (by rfl) T.b_abs (by decide +kernel) (pa_cons (pv 1) pa_nil)) pa_nil)) (by rfl)) (Evl.pss_cut (ps_for PassesOwn.never rfl (pi_range1 (by rfl) T.b_range (pa_cons pe_int pa_nil)) (pg_name (i := 2) sc_L_gcd.nd rfl (.inl rfl)) (Evl.pss_cut (ps_if (pt_cmpR op_eq (pv 1) pe_int (nomark _)) (pss_one ps_break) pss_nil) (pss_one (ps_par (i := 0) (j := 1) (by rfl) sc_L_gcd.nd rfl rfl (by decide) rfl rfl (pa_cons (pv 1) (pa_cons (pe_op op_modN (pe_callTy call_int1 (by rfl) T.b_int (by decide +kernel) (pa_cons (pv 0) pa_nil)) (pv 1)) pa_nil)) (by rfl))))) (pss_one (ps_ret (pv 0))))), ?_⟩
    refine ⟨_, rfl, _, rfl, _, rfl, _, rfl, _, _, rfl, ?_⟩
    rw [abs_val, abs_val]
    have hg0 : Int.gcd (a.natAbs : Int) (b.natAbs : Int) = Int.gcd a b := by simp only [Int.gcd, Int.natAbs_natCast]
    have ha0 : (0 : Int) ≤ (a.natAbs : Int) := Int.natCast_nonneg _
    have hb0 : (0 : Int) ≤ (b.natAbs : Int) := Int.natCast_nonneg _
    have hb1 : (b.natAbs : Int) < 2 ^ n := by
      have : ((b.natAbs : Nat) : Int) < ((2 ^ n : Nat) : Int) := Int.ofNat_lt.mpr hb
      rw [Int.natCast_pow] at this
      exact this
    generalize (a.natAbs : Int) = x0 at hg0 ha0
    generalize (b.natAbs : Int) = y0 at hg0 hb0 hb1
    refine ⟨fun σ H' => (∃ z, σ = [some (.int (Int.gcd a b : Nat)), some (.int 0), z]) ∧ H = H', ?_, fun σ H' hM => ?_⟩
    · refine ⟨60000, rfl, by decide, by decide, for_range (lo := 0) (n := 60000) (fun i σ H' => (∃ (x y : Int) (z : Option V), σ = [some (.int x), some (.int y), z] ∧ 0 ≤ x ∧ 0 ≤ y ∧ Int.gcd x y = Int.gcd a b ∧ ((i = 0 ∧ y < 2 ^ n) ∨ (0 < i ∧ y < x ∧ x * y * 2 ^ (i - 1) ≤ 2 ^ n * 2 ^ n))) ∧ H = H')
        ⟨⟨x0, y0, none, rfl, ha0, hb0, hg0, .inl ⟨rfl, hb1⟩⟩, rfl⟩ (fun i σ H' hi h => ?_) (fun σ H' h => ?_)⟩
      · obtain ⟨⟨x, y, z, rfl, hx, hy, hg, hc⟩, rfl⟩ := h
        refine ⟨fun σ' H' => (∃ z, σ' = [some (.int x), some (.int y), z]) ∧ H = H' ∧ 0 < y, ?_, fun σ' H' hM => ?_⟩
        · refine ⟨_, rfl, rfl, _, rfl, ?_⟩
          by_cases h0 : y = 0
          · refine ifT (decide_eq_true (by rw [h0])) ?_
            subst h0
            rw [Int.gcd_zero_right] at hg
            have e : x = ((Int.gcd a b : Nat) : Int) := by omega
            exact ⟨⟨_, by rw [← e]; rfl⟩, rfl⟩
          · exact ifF (decide_eq_false (fun z => h0 (V.int.inj z))) ⟨⟨_, rfl⟩, rfl, by omega⟩
        · obtain ⟨⟨z', rfl⟩, rfl, hy1⟩ := hM
          refine ⟨_, rfl, _, rfl, .inl ⟨_, rfl, _, rfl, _, _, rfl, rfl, by show y ≠ 0; omega, _, _, rfl, ?_⟩⟩
          have e : Int.fmod x y = x % y := Int.fmod_eq_emod_of_nonneg x hy
          have r0 := Int.emod_nonneg x (show y ≠ 0 by omega)
          have r1 := Int.emod_lt_of_pos x hy1
          refine ⟨⟨y, Int.fmod x y, _, rfl, hy, by rw [e]; exact r0, by rw [e, gcd_step hx hy]; exact hg, .inr ⟨Nat.succ_pos i, by rw [e]; exact r1, ?_⟩⟩, rfl⟩
          rw [e, Nat.add_sub_cancel]
          rcases hc with ⟨rfl, hy2⟩ | ⟨hi0, hyx, hxy⟩
          · have h1 : y * (x % y) ≤ 2 ^ n * 2 ^ n := Int.mul_le_mul (by omega) (by omega) r0 (by omega)
            rw [Int.pow_zero, Int.mul_one]
            exact h1
          · obtain ⟨h1, _, _⟩ := gcd_half hy1 (by omega : y ≤ x)
            have e2 : (2 : Int) ^ i = 2 * 2 ^ (i - 1) := by
              have : i = (i - 1) + 1 := by omega
              rw [this, Int.pow_succ, Nat.add_sub_cancel, Int.mul_comm]
            have hp : (0 : Int) ≤ 2 ^ (i - 1) := Int.le_of_lt (Int.pow_pos (by decide))
            have h2 : 2 * (y * (x % y)) * 2 ^ (i - 1) ≤ x * y * 2 ^ (i - 1) := Int.mul_le_mul_of_nonneg_right h1 hp
            have e3 : y * (x % y) * (2 * 2 ^ (i - 1)) = 2 * (y * (x % y)) * 2 ^ (i - 1) := by
              rw [← Int.mul_assoc, Int.mul_comm (y * (x % y)) 2]
            rw [e2, e3]
            exact Int.le_trans h2 hxy
      · obtain ⟨⟨x, y, z, rfl, hx, hy, hg, hc⟩, rfl⟩ := h
        rcases hc with ⟨h, _⟩ | ⟨_, hyx, hxy⟩
        · cases h
        · have h0 : y = 0 := by
            by_cases h0 : y = 0
            · exact h0
            · have h1 : (1 : Int) ≤ x * y := by
                have : 0 < x * y := Int.mul_pos (by omega) (by omega)
                omega
              have hp : (0 : Int) < 2 ^ (60000 - 1) := Int.pow_pos (by decide)
              have h2 : 1 * (2 : Int) ^ (60000 - 1) ≤ x * y * 2 ^ (60000 - 1) := Int.mul_le_mul_of_nonneg_right h1 (Int.le_of_lt hp)
              have h3 : (2 : Int) ^ n * 2 ^ n = 2 ^ (n + n) := (Int.pow_add 2 n n).symm
              have h4 : (2 : Int) ^ (n + n) < 2 ^ (60000 - 1) := Int.pow_lt_pow_of_lt (by decide) (by omega)
              omega
          subst h0
          rw [Int.gcd_zero_right] at hg
          have e : x = ((Int.gcd a b : Nat) : Int) := by omega
          exact ⟨⟨_, by rw [← e]⟩, rfl⟩
    · obtain ⟨⟨z, rfl⟩, rfl⟩ := hM
      exact ⟨_, rfl, q⟩
theorem h_L_q (T : Txt K mg) (B : BaseOk P base) {k : Nat} (hk : 32 ≤ k) (G_L_gcd : Has P w K mg base "_law_gcd" ["_law_one", "_law_two"] k sp_L_gcd) : Has P w K mg base "_law_q" ["_law_top", "_law_bottom"] (k + 1) sp_L_q := by
  refine has_of T.d_L_q sc_L_q (fun vs H Q E h => ?_) (fun f cdv A outer s H vs Q E hr h => ?_)
  · obtain ⟨a, b, n, rfl, _⟩ := h
    rfl
  · obtain ⟨a, b, n, rfl, hb, hb2, hn, q⟩ := h
    have SX : Seer (cxOf CX0 P w K mg base ["_law_top", "_law_bottom", "_law_by_here"] "_law_q" (defScope s_L_q) f cdv A outer s H E).nox := seer_cx B hr hk rfl rfl
    refine ⟨_, (pss_cons (ps_set (i := 2) sc_L_q.nd rfl (.inl rfl) (pe_callH G_L_gcd hr (by rfl) (pa_cons (pv 0) (pa_cons (pv 1) pa_nil)))) (Evl.pss_cut (ps_set (i := 2) sc_L_q.nd rfl (.inl rfl) (pe_ifExp (pt_cmpR op_gt (pv 1) pe_int (nomark _)) (pv 2) (pe_un un_neg (pv 2)))) (pss_one (ps_ret (pe_tup (pa_cons (pe_op (op_fdivS SX) (pv 0) (pv 2)) (pa_cons (pe_op (op_fdivS SX) (pv 1) (pv 2)) pa_nil))))))), ?_⟩
    refine ⟨_, rfl, _, rfl, a, b, n, rfl, hb2, hn, ?_⟩
    refine ⟨fun σ H' => σ = [some (.int a), some (.int b), some (.int (Int.gcd a b : Nat))] ∧ H = H', ?_, fun σ H' hM => ?_⟩
    · refine ⟨_, rfl, _, _, rfl, rfl, _, rfl, ?_⟩
      refine ifT (decide_eq_true hb) ?_
      exact ⟨_, rfl, rfl, rfl⟩
    obtain ⟨rfl, rfl⟩ := hM
    have hg := gcd_pos (a := a) hb
    refine ⟨_, rfl, _, rfl, _, _, rfl, rfl, hg, _, rfl, _, rfl, _, _, rfl, rfl, hg, by show 2 ≤ sizeLine; decide, fun p hp => ?_⟩
    refine q p _ (same_new hp) ?_
    dsimp only
    rw [upd_same, num_low hb, den_low hb]
theorem nat_lt_add {x y : Nat} {n m : Nat} (hx : x < 2 ^ n) (hy : y < 2 ^ m) : ((x : Int) * (y : Int)).natAbs < 2 ^ (n + m) := by
  rw [← Int.natCast_mul, Int.natAbs_natCast, Nat.pow_add]
  exact Nat.mul_lt_mul'' hx hy
theorem plus_low (q r : Rat) : Rat.divInt (q.num * (r.den : Int) + r.num * (q.den : Int)) ((q.den : Int) * (r.den : Int)) = q + r := by
  rw [Rat.add_def', ← Int.natCast_mul, Rat.divInt_ofNat]
theorem by_low (q r : Rat) : Rat.divInt (q.num * r.num) ((q.den : Int) * (r.den : Int)) = q * r := by
  rw [Rat.mul_def', ← Int.natCast_mul, Rat.divInt_ofNat]
theorem h_L_plus (T : Txt K mg) {k : Nat} (G_L_q : Has P w K mg base "_law_q" ["_law_top", "_law_bottom"] k sp_L_q) : Has P w K mg base "_law_plus" ["_law_one", "_law_two"] (k + 1) (sp_L_two K (· + ·)) := by
  refine has_of T.d_L_plus sc_L_plus (fun vs H Q E h => ?_) (fun f cdv A outer s H vs Q E hr h => ?_)
  · obtain ⟨v, u, x, y, n, m, rfl, _⟩ := h
    rfl
  · obtain ⟨v, u, x, y, n, m, rfl, ⟨p, rfl, hp⟩, ⟨r, rfl, hr'⟩, hx, hy, hnm, q⟩ := h
    refine ⟨_, (pss_one (ps_ret (pe_callH G_L_q hr (by rfl) (pa_cons (pe_op op_add (pe_op op_mulX (pe_ix ix_tup (pv 0) pe_int (fun _ _ => rfl)) (pe_ix ix_tup (pv 1) pe_int (fun _ _ => rfl))) (pe_op op_mulX (pe_ix ix_tup (pv 1) pe_int (fun _ _ => rfl)) (pe_ix ix_tup (pv 0) pe_int (fun _ _ => rfl)))) (pa_cons (pe_op op_mulX (pe_ix ix_tup (pv 0) pe_int (fun _ _ => rfl)) (pe_ix ix_tup (pv 1) pe_int (fun _ _ => rfl))) pa_nil))))), ?_⟩
    have a1 := hx.sn (by omega)
    have a2 := hx.sd (by omega)
    have b1 := hy.sn (by omega)
    have b2 := hy.sd (by omega)
    refine ⟨_, rfl, p, _, 0, _, rfl, rfl, hp, atI_nat (j := 0) rfl, _, rfl, r, _, 1, _, rfl, rfl, hr', atI_nat (j := 1) rfl, _, _, rfl, rfl, mul_sm a1 b2, ?_⟩
    refine ⟨_, rfl, r, _, 0, _, rfl, rfl, hr', atI_nat (j := 0) rfl, _, rfl, p, _, 1, _, rfl, rfl, hp, atI_nat (j := 1) rfl, _, _, rfl, rfl, mul_sm b1 a2, _, _, rfl, rfl, ?_⟩
    refine ⟨_, rfl, p, _, 1, _, rfl, rfl, hp, atI_nat (j := 1) rfl, _, rfl, r, _, 1, _, rfl, rfl, hr', atI_nat (j := 1) rfl, _, _, rfl, rfl, mul_sm a2 b2, ?_⟩
    refine ⟨_, _, n + m, rfl, Int.mul_pos (den_pos' x) (den_pos' y), nat_lt_add hx.2 hy.2, hnm, fun t H' sm ht => ?_⟩
    rw [plus_low] at ht
    exact q _ _ sm ⟨t, rfl, .of ht⟩
theorem h_L_by (T : Txt K mg) {k : Nat} (G_L_q : Has P w K mg base "_law_q" ["_law_top", "_law_bottom"] k sp_L_q) : Has P w K mg base "_law_by" ["_law_one", "_law_two"] (k + 1) (sp_L_two K (· * ·)) := by
  refine has_of T.d_L_by sc_L_by (fun vs H Q E h => ?_) (fun f cdv A outer s H vs Q E hr h => ?_)
  · obtain ⟨v, u, x, y, n, m, rfl, _⟩ := h
    rfl
  · obtain ⟨v, u, x, y, n, m, rfl, ⟨p, rfl, hp⟩, ⟨r, rfl, hr'⟩, hx, hy, hnm, q⟩ := h
    refine ⟨_, (pss_one (ps_ret (pe_callH G_L_q hr (by rfl) (pa_cons (pe_op op_mulX (pe_ix ix_tup (pv 0) pe_int (fun _ _ => rfl)) (pe_ix ix_tup (pv 1) pe_int (fun _ _ => rfl))) (pa_cons (pe_op op_mulX (pe_ix ix_tup (pv 0) pe_int (fun _ _ => rfl)) (pe_ix ix_tup (pv 1) pe_int (fun _ _ => rfl))) pa_nil))))), ?_⟩
    have a1 := hx.sn (by omega)
    have a2 := hx.sd (by omega)
    have b1 := hy.sn (by omega)
    have b2 := hy.sd (by omega)
    refine ⟨_, rfl, p, _, 0, _, rfl, rfl, hp, atI_nat (j := 0) rfl, _, rfl, r, _, 0, _, rfl, rfl, hr', atI_nat (j := 0) rfl, _, _, rfl, rfl, mul_sm a1 b1, ?_⟩
    refine ⟨_, rfl, p, _, 1, _, rfl, rfl, hp, atI_nat (j := 1) rfl, _, rfl, r, _, 1, _, rfl, rfl, hr', atI_nat (j := 1) rfl, _, _, rfl, rfl, mul_sm a2 b2, ?_⟩
    refine ⟨_, _, n + m, rfl, Int.mul_pos (den_pos' x) (den_pos' y), nat_lt_add hx.2 hy.2, hnm, fun t H' sm ht => ?_⟩
    rw [by_low] at ht
    exact q _ _ sm ⟨t, rfl, .of ht⟩
theorem h_L_less (T : Txt K mg) {k : Nat} : Has P w K mg base "_law_less" ["_law_one", "_law_two"] (k + 1) (sp_L_less K) := by
  refine has_of T.d_L_less sc_L_less (fun vs H Q E h => ?_) (fun f cdv A outer s H vs Q E hr h => ?_)
  · obtain ⟨v, u, x, y, n, m, rfl, _⟩ := h
    rfl
  · obtain ⟨v, u, x, y, n, m, rfl, ⟨p, rfl, hp⟩, ⟨r, rfl, hr'⟩, hx, hy, hnm, q⟩ := h
    refine ⟨_, (pss_one (ps_ret (pe_cmpR op_lt (pe_op op_mulX (pe_ix ix_tup (pv 0) pe_int (fun _ _ => rfl)) (pe_ix ix_tup (pv 1) pe_int (fun _ _ => rfl))) (pe_op op_mulX (pe_ix ix_tup (pv 1) pe_int (fun _ _ => rfl)) (pe_ix ix_tup (pv 0) pe_int (fun _ _ => rfl))) (nomark _)))), ?_⟩
    have a1 := hx.sn (by omega)
    have a2 := hx.sd (by omega)
    have b1 := hy.sn (by omega)
    have b2 := hy.sd (by omega)
    refine ⟨_, rfl, p, _, 0, _, rfl, rfl, hp, atI_nat (j := 0) rfl, _, rfl, r, _, 1, _, rfl, rfl, hr', atI_nat (j := 1) rfl, _, _, rfl, rfl, mul_sm a1 b2, ?_⟩
    refine ⟨_, rfl, r, _, 0, _, rfl, rfl, hr', atI_nat (j := 0) rfl, _, rfl, p, _, 1, _, rfl, rfl, hp, atI_nat (j := 1) rfl, _, _, rfl, rfl, mul_sm b1 a2, _, _, rfl, rfl, ?_⟩
    have e : decide (x.num * (y.den : Int) < y.num * (x.den : Int)) = decide (x < y) := decide_eq_decide.mpr (Rat.lt_iff x y).symm
    show Q (.bl (decide (x.num * (y.den : Int) < y.num * (x.den : Int)))) H
    rw [e]
    exact q
theorem h_L_is_whole (T : Txt K mg) {k : Nat} : Has P w K mg base "_law_is_whole" ["_law_value"] (k + 1) (sp_is_whole K) := by
  refine has_of T.d_L_is_whole sc_L_is_whole (fun vs H Q E h => ?_) (fun f cdv A outer s H vs Q E hr h => ?_)
  · obtain ⟨v, b, rfl, _⟩ := h
    rfl
  · obtain ⟨v, b, rfl, hv, q⟩ := h
    refine ⟨_, (pss_one (ps_ret (pe_and (pe_callB call_isi (by rfl) T.b_isinstance (by decide +kernel) (pa_cons (pv 0) (pa_cons (pe_bltn (v := .ty "int") (by rfl) T.b_int (by decide +kernel) rfl) pa_nil))) (pe_one (pe_not (pe_callB call_isi (by rfl) T.b_isinstance (by decide +kernel) (pa_cons (pv 0) (pa_cons (pe_bltn (v := .ty "bool") (by rfl) T.b_bool (by decide +kernel) rfl) pa_nil)))))))), ?_⟩
    rcases hv with ⟨i, rfl, rfl⟩ | ⟨p, xs, rfl, ht, rfl⟩
    · exact ⟨_, rfl, _, _, .type "int", _, true, rfl, .ty _, .base (.int i), kit_ty (by decide +kernel), true, rfl, iteT ⟨_, rfl, _, _, .type "int", _, false, rfl, .ty _, .base (.int i), kit_ty (by decide +kernel), false, rfl, q⟩⟩
    · exact ⟨_, rfl, _, _, .type "tuple", _, false, rfl, .ty _, ty_tup ht, kit_ty (by decide +kernel), false, rfl, iteF q⟩
theorem h_L_is_ratio (T : Txt K mg) {k : Nat} (G_L_is_whole : Has P w K mg base "_law_is_whole" ["_law_value"] k (sp_is_whole K)) (G_L_gcd : Has P w K mg base "_law_gcd" ["_law_one", "_law_two"] k sp_L_gcd) : Has P w K mg base "_law_is_ratio" ["_law_value"] (k + 1) (sp_L_is_ratio K) := by
  refine has_of T.d_L_is_ratio sc_L_is_ratio (fun vs H Q E h => ?_) (fun f cdv A outer s H vs Q E hr h => ?_)
  · obtain ⟨v, o, rfl, _⟩ := h
    rfl
  · obtain ⟨v, o, rfl, hv, hb, q⟩ := h
    refine ⟨_, (Evl.pss_cut (ps_if (PW.pt (pw_or (pt_not (pt_val (pe_callB call_isi (by rfl) T.b_isinstance (by decide +kernel) (pa_cons (pv 0) (pa_cons (pe_bltn (v := .ty "tuple") (by rfl) T.b_tuple (by decide +kernel) rfl) pa_nil))))) (pw_or (pt_cmpR op_ne (pe_callB call_len_seq (by rfl) T.b_len PySem.boot_len (pa_cons (pv 0) pa_nil)) pe_int (nomark _)) (pw_or (pt_not (pt_val (pe_callH G_L_is_whole hr (by rfl) (pa_cons (pe_ix ix_tup (pv 0) pe_int (fun _ _ => rfl)) pa_nil)))) (pw_or1 (pt_not (pt_val (pe_callH G_L_is_whole hr (by rfl) (pa_cons (pe_ix ix_tup (pv 0) pe_int (fun _ _ => rfl)) pa_nil))))))))) (pss_one (ps_ret pe_bl)) pss_nil) (pss_one (ps_ret (pe_and (pe_cmpR op_gt (pe_ix ix_tup (pv 0) pe_int (fun _ _ => rfl)) pe_int (nomark _)) (pe_one (pe_cmpR op_eq (pe_callH G_L_gcd hr (by rfl) (pa_cons (pe_ix ix_tup (pv 0) pe_int (fun _ _ => rfl)) (pa_cons (pe_ix ix_tup (pv 0) pe_int (fun _ _ => rfl)) pa_nil))) pe_int (nomark _))))))), ?_⟩
    cases o with
    | none =>
      cases hv
      refine ⟨fun _ _ => False, ?_, fun _ _ h => h.elim⟩
      refine ⟨_, rfl, _, _, .type "NoneType", _, false, rfl, .ty _, .base .non, kit_ty (by decide +kernel), false, rfl, ?_⟩
      exact iteT (iteT q)
    | some r =>
      obtain ⟨p, rfl, hp⟩ := hv
      obtain ⟨b1, b2⟩ := hb r rfl
      refine ⟨fun σ H' => σ = [some (.ref p)] ∧ H = H', ?_, fun σ H' hM => ?_⟩
      · refine ⟨_, rfl, _, _, .type "tuple", _, true, rfl, .ty _, ty_tup hp, kit_ty (by decide +kernel), true, rfl, ?_⟩
        refine iteF ⟨_, rfl, p, _, rfl, .inr hp, rfl, _, rfl, ?_⟩
        refine iteF ⟨_, rfl, p, _, 0, _, rfl, rfl, hp, atI_nat (j := 0) rfl, _, true, rfl, .inl ⟨_, rfl, rfl⟩, true, rfl, ?_⟩
        refine iteF ⟨_, rfl, p, _, 1, _, rfl, rfl, hp, atI_nat (j := 1) rfl, _, true, rfl, .inl ⟨_, rfl, rfl⟩, true, rfl, ?_⟩
        exact iteF ⟨rfl, rfl⟩
      · obtain ⟨rfl, rfl⟩ := hM
        refine ⟨_, rfl, p, _, 1, _, rfl, rfl, hp, atI_nat (j := 1) rfl, _, _, rfl, rfl, _, rfl, ?_⟩
        refine ifT (decide_eq_true (den_pos' r)) ?_
        refine ⟨_, rfl, p, _, 0, _, rfl, rfl, hp, atI_nat (j := 0) rfl, _, rfl, p, _, 1, _, rfl, rfl, hp, atI_nat (j := 1) rfl, _, _, 29900, rfl, by rw [Int.natAbs_natCast]; exact b2, by decide, rfl, ?_⟩
        have e : ((Int.gcd r.num (r.den : Int) : Nat) : Int) = 1 := by
          have := r.reduced
          have e2 : Int.gcd r.num (r.den : Int) = Nat.gcd r.num.natAbs r.den := by simp only [Int.gcd, Int.natAbs_natCast]
          rw [e2, this]
          rfl
        show Q (.bl (decide (V.int ((Int.gcd r.num (r.den : Int) : Nat) : Int) = V.int 1))) H
        rw [e]
        exact q
theorem h_L_passed (T : Txt K mg) {k : Nat} (G_L_draw : Has P w K mg base "_law_draw" ["_law_pen_here", "_law_many"] k sp_L_draw) : Has P w K mg base "_law_passed" ["_law_pen_here", "_law_ratio"] (k + 1) (sp_L_passed K) := by
  refine has_of T.d_L_passed sc_L_passed (fun vs H Q E h => ?_) (fun f cdv A outer s H vs Q E hr h => ?_)
  · obtain ⟨c, d, v, r, n, rfl, _⟩ := h
    rfl
  · obtain ⟨c, d, v, r, n, rfl, hpen, ⟨p, rfl, hp⟩, hb, hn, q⟩ := h
    refine ⟨_, (pss_cons (ps_set (i := 2) sc_L_passed.nd rfl (.inl rfl) (pe_op op_add pe_int (pe_callH G_L_draw hr (by rfl) (pa_cons (pv 0) (pa_cons pe_int pa_nil))))) (Evl.pss_cut (ps_if (PW.pt (pw_and (pt_cmpR op_eq (pe_ix ix_tup (pv 1) pe_int (fun _ _ => rfl)) pe_int (nomark _)) (pw_and1 (pt_cmpR op_eq (pe_callH G_L_draw hr (by rfl) (pa_cons (pv 0) (pa_cons pe_int pa_nil))) pe_int (nomark _))))) (pss_one (ps_ret (pe_ix ix_tup (pv 1) pe_int (fun _ _ => rfl)))) pss_nil) (pss_one (ps_ret (pe_tup (pa_cons (pe_op op_mulX (pe_ix ix_tup (pv 1) pe_int (fun _ _ => rfl)) (pv 2)) (pa_cons (pe_op op_mulX (pe_ix ix_tup (pv 1) pe_int (fun _ _ => rfl)) (pv 2)) pa_nil))))))), ?_⟩
    refine ⟨_, rfl, c, d, 5, n, rfl, hpen, by decide, by omega, fun x H1 x0 x1 b1 hp1 => ?_⟩
    refine ⟨1, x, rfl, rfl, ?_⟩
    have ht1 := Gr.t (hpen.gr b1) hp
    refine ⟨fun σ H2 => σ = [some (.ref d), some (.ref p), some (.int (1 + x))] ∧ But d H H2 ∧ IsPen c H2 d (n + 2), ?_, fun σ H2 hM => ?_⟩
    · refine ⟨_, rfl, p, _, 1, _, rfl, rfl, ht1, atI_nat (j := 1) rfl, rfl, _, rfl, ?_⟩
      by_cases h1 : (r.den : Int) = 1
      · refine ifT (decide_eq_true (by rw [h1])) ?_
        refine ⟨_, rfl, c, d, 2, n + 1, rfl, hp1, by decide, by omega, fun y H2 y0 y1 b2 hp2 => ?_⟩
        refine ⟨rfl, _, rfl, ?_⟩
        by_cases h2 : y = 0
        · refine ifT (decide_eq_true (by rw [h2])) ?_
          refine ⟨_, rfl, p, _, 0, _, rfl, rfl, Gr.t (hp1.gr b2) ht1, atI_nat (j := 0) rfl, q _ _ ?_ (b1.trans b2) hp2⟩
          have e : r = ((r.num : Int) : Rat) := Rat.ext rfl (by show r.den = 1; omega)
          have := IsN.int (K := K) (H := H2) r.num
          rw [← e] at this
          exact this
        · exact ifF (decide_eq_false (fun z => h2 (V.int.inj z))) ⟨rfl, b1.trans b2, hp2⟩
      · refine ifF (decide_eq_false (fun z => h1 (V.int.inj z))) ?_
        exact iteF ⟨rfl, b1, hp1.more (by omega)⟩
    · obtain ⟨rfl, b2, hp2⟩ := hM
      have ht2 := Gr.t (hpen.gr b2) hp
      have kx : Sm (1 + x) := sm_small (by omega)
      refine ⟨_, rfl, p, _, 0, _, rfl, rfl, ht2, atI_nat (j := 0) rfl, _, rfl, _, _, rfl, rfl, mul_sm (hb.sn (by decide)) kx, ?_⟩
      refine ⟨_, rfl, p, _, 1, _, rfl, rfl, ht2, atI_nat (j := 1) rfl, _, rfl, _, _, rfl, rfl, mul_sm (hb.sd (by decide)) kx, by show 2 ≤ sizeLine; decide, fun t ht => ?_⟩
      have s3 := same_new (o := .tup [.int (r.num * (1 + x)), .int ((r.den : Int) * (1 + x))]) ht
      refine q _ _ ?_ (b2.trans (Same.but d s3)) (hp2.same s3)
      have hN := IsN.pair (K := K) (H := upd H2 t (.tup [.int (r.num * (1 + x)), .int ((r.den : Int) * (1 + x))])) (p := t) (.of upd_same) (Int.mul_pos (den_pos' r) (show 0 < 1 + x by omega))
      rw [Rat.divInt_mul_right (show (1 + x) ≠ 0 by omega), Rat.num_divInt_den] at hN
      exact hN
end
end Kq

set_option Elab.async false
set_option linter.all false
set_option maxRecDepth 100000
set_option maxHeartbeats 4000000
/-! the law's rows -/
namespace Kq
open PySem PySem.Spec PyProof.Rows L2
/-! ### plain -/
def manyQ (l : List Rat) : Nat → Nat
  | 0 => 0
  | n + 1 => if l[n]? = some 0 then manyQ l n else n + 1
def trimQ (l : List Rat) : List Rat := l.take (manyQ l l.length)
theorem manyQ_le (l : List Rat) : ∀ n, manyQ l n ≤ n
  | 0 => Nat.le_refl _
  | n + 1 => by
    unfold manyQ
    split
    · exact Nat.le_succ_of_le (manyQ_le l n)
    · exact Nat.le_refl _
theorem trimQ_len (l : List Rat) : (trimQ l).length ≤ l.length := by
  unfold trimQ
  rw [List.length_take]
  exact Nat.min_le_right _ _
theorem trimQ_mem {l : List Rat} {q : Rat} (h : q ∈ trimQ l) : q ∈ l := List.mem_of_mem_take h
def addQ (ps rs : List Rat) : List Rat := trimQ ((padded ps (max ps.length rs.length)).zipWith (· + ·) (padded rs (max ps.length rs.length)))
def addAt : List Rat → Nat → Rat → List Rat → List Rat
  | l, _, _, [] => l
  | l, n, a, x :: m => addAt (l.set n (l.getD n 0 + a * x)) (n + 1) a m
def conv : List Rat → Nat → List Rat → List Rat → List Rat
  | f, _, [], _ => f
  | f, k, a :: ps, rs => conv (addAt f k a rs) (k + 1) ps rs
def mulQ (ps rs : List Rat) : List Rat := if ps = [] ∨ rs = [] then [] else trimQ (conv (List.replicate (ps.length + rs.length - 1) 0) 0 ps rs)
theorem addAt_len : ∀ (m l : List Rat) (n : Nat) (a : Rat), (addAt l n a m).length = l.length
  | [], _, _, _ => rfl
  | x :: m, l, n, a => by
    show (addAt _ _ _ m).length = _
    rw [addAt_len m, List.length_set]
theorem conv_len : ∀ (ps rs f : List Rat) (k : Nat), (conv f k ps rs).length = f.length
  | [], _, _, _ => rfl
  | a :: ps, rs, f, k => by
    show (conv _ _ ps rs).length = _
    rw [conv_len ps, addAt_len]
theorem addAt_snoc : ∀ (m l : List Rat) (n : Nat) (a x : Rat), addAt l n a (m ++ [x]) = (addAt l n a m).set (n + m.length) ((addAt l n a m).getD (n + m.length) 0 + a * x)
  | [], l, n, a, x => rfl
  | y :: m, l, n, a, x => by
    show addAt _ (n + 1) a (m ++ [x]) = _
    rw [addAt_snoc m]
    have e : n + 1 + m.length = n + (y :: m).length := by rw [List.length_cons]; omega
    rw [e]
    rfl
theorem conv_snoc : ∀ (ps rs f : List Rat) (k : Nat) (a : Rat), conv f k (ps ++ [a]) rs = addAt (conv f k ps rs) (k + ps.length) a rs
  | [], _, _, _, _ => rfl
  | b :: ps, rs, f, k, a => by
    show conv _ (k + 1) (ps ++ [a]) rs = _
    rw [conv_snoc ps]
    have e : k + 1 + ps.length = k + (b :: ps).length := by rw [List.length_cons]; omega
    rw [e]
    rfl
/-! ### how large: whole numbers over one divisor -/
def BQ (D M : Nat) (q : Rat) : Prop := ∃ z : Int, q = (z : Rat) / (D : Rat) ∧ z.natAbs ≤ M
theorem BQ.mono {D M N : Nat} {q : Rat} (h : BQ D M q) (l : M ≤ N) : BQ D N q := by
  obtain ⟨z, e, b⟩ := h
  exact ⟨z, e, Nat.le_trans b l⟩
theorem bq_zero {D M : Nat} : BQ D M 0 := ⟨0, by rw [Rat.div_def]; simp, Nat.zero_le _⟩
theorem BQ.add {D M N : Nat} {q r : Rat} (h : BQ D M q) (k : BQ D N r) : BQ D (M + N) (q + r) := by
  obtain ⟨z, rfl, b⟩ := h
  obtain ⟨y, rfl, c⟩ := k
  refine ⟨z + y, ?_, by omega⟩
  rw [Rat.div_def, Rat.div_def, Rat.div_def, Rat.intCast_add, Rat.add_mul]
theorem natCast_ne {D : Nat} (h : 0 < D) : (D : Rat) ≠ 0 := fun e => by
  have := Rat.natCast_eq_zero_iff.mp e
  omega
theorem BQ.mul {D E M N : Nat} {q r : Rat} (hD : 0 < D) (hE : 0 < E) (h : BQ D M q) (k : BQ E N r) : BQ (D * E) (M * N) (q * r) := by
  obtain ⟨z, rfl, b⟩ := h
  obtain ⟨y, rfl, c⟩ := k
  refine ⟨z * y, ?_, by rw [Int.natAbs_mul]; exact Nat.mul_le_mul b c⟩
  have h1 := natCast_ne hD
  have h2 := natCast_ne hE
  rw [Rat.intCast_mul, Rat.natCast_mul]
  grind
theorem BQ.up {D M : Nat} {q : Rat} (E : Nat) (hD : 0 < D) (hE : 0 < E) (h : BQ D M q) : BQ (D * E) (M * E) q := by
  obtain ⟨z, rfl, b⟩ := h
  refine ⟨z * E, ?_, by rw [Int.natAbs_mul, Int.natAbs_natCast]; exact Nat.mul_le_mul b (Nat.le_refl _)⟩
  have h1 := natCast_ne hD
  have h2 := natCast_ne hE
  rw [Rat.intCast_mul, Rat.natCast_mul]
  have e : (((E : Nat) : Int) : Rat) = (E : Rat) := rfl
  rw [e]
  grind
theorem bq_self (q : Rat) : BQ q.den q.num.natAbs q := by
  refine ⟨q.num, ?_, Nat.le_refl _⟩
  have h := Rat.num_divInt_den q
  rw [Rat.divInt_eq_div] at h
  exact h.symm
theorem BQ.den_dvd {D M : Nat} {q : Rat} (hD : 0 < D) (h : BQ D M q) : q.den ≤ D ∧ q.num.natAbs ≤ M := by
  obtain ⟨z, e, b⟩ := h
  have e2 : q = Rat.divInt z (D : Int) := by rw [Rat.divInt_eq_div]; exact e
  have h1 := den_low (a := z) (b := (D : Int)) (by omega)
  have h2 := num_low (a := z) (b := (D : Int)) (by omega)
  rw [← e2] at h1 h2
  refine ⟨?_, ?_⟩
  · have := Int.natAbs_ediv_le_natAbs (D : Int) ((Int.gcd z (D : Int) : Nat) : Int)
    rw [h1] at this
    simpa using this
  · have := Int.natAbs_ediv_le_natAbs z ((Int.gcd z (D : Int) : Nat) : Int)
    rw [h2] at this
    omega
theorem BQ.qb {D M n : Nat} {q : Rat} (hD : 0 < D) (h : BQ D M q) (h1 : D < 2 ^ n) (h2 : M < 2 ^ n) : QB n q := by
  obtain ⟨a, b⟩ := h.den_dvd hD
  exact ⟨Nat.lt_of_le_of_lt b h2, Nat.lt_of_le_of_lt a h1⟩
def RBd (D M : Nat) (ps : List Rat) : Prop := ∀ q ∈ ps, BQ D M q
theorem getD_bq {D M i : Nat} {l : List Rat} (h : RBd D M l) : BQ D M (l.getD i 0) := by
  rw [List.getD_eq_getElem?_getD]
  cases e : l[i]? with
  | none => exact bq_zero
  | some x => exact h x (List.mem_of_getElem? e)
theorem addAt_bd {D E M N c : Nat} {a : Rat} (hD : 0 < D) (hE : 0 < E) (ha : BQ D M a) : ∀ (m l : List Rat) (n : Nat), RBd E N m → (∀ i x, l[i]? = some x → BQ (D * E) (c + M * N) x ∧ (n ≤ i → BQ (D * E) c x)) → RBd (D * E) (c + M * N) (addAt l n a m)
  | [], l, n, _, h => fun x hx => by
    obtain ⟨i, hi⟩ := List.mem_iff_getElem?.mp hx
    exact (h i x hi).1
  | y :: m, l, n, hm, h => by
    refine addAt_bd hD hE ha m _ (n + 1) (fun x hx => hm x (List.mem_cons_of_mem _ hx)) fun i x hi => ?_
    by_cases hin : n = i
    · subst hin
      rw [List.getElem?_set] at hi
      simp only [if_true] at hi
      split at hi
      · cases hi
        refine ⟨?_, fun z => absurd z (by omega)⟩
        rename_i hl
        have e : l[n]? = some l[n] := List.getElem?_eq_getElem hl
        rw [List.getD_eq_getElem?_getD, e]
        exact BQ.add ((h n _ e).2 (Nat.le_refl _)) (BQ.mul hD hE ha (hm y List.mem_cons_self))
      · cases hi
    · rw [List.getElem?_set_ne hin] at hi
      exact ⟨(h i x hi).1, fun z => (h i x hi).2 (by omega)⟩
theorem conv_bd {D E M N : Nat} (hD : 0 < D) (hE : 0 < E) : ∀ (ps rs f : List Rat) (k c : Nat), RBd D M ps → RBd E N rs → RBd (D * E) c f → RBd (D * E) (c + ps.length * (M * N)) (conv f k ps rs)
  | [], rs, f, k, c, _, _, h => by
    show RBd _ (c + 0 * _) f
    rw [Nat.zero_mul]
    exact h
  | a :: ps, rs, f, k, c, hp, hr, h => by
    have h1 := addAt_bd (c := c) hD hE (hp a List.mem_cons_self) rs f k hr (fun i x hi => ⟨(h x (List.mem_of_getElem? hi)).mono (by omega), fun _ => h x (List.mem_of_getElem? hi)⟩)
    have h2 := conv_bd hD hE ps rs _ (k + 1) _ (fun x hx => hp x (List.mem_cons_of_mem _ hx)) hr h1
    have e : c + M * N + ps.length * (M * N) = c + (a :: ps).length * (M * N) := by
      rw [List.length_cons, Nat.succ_mul]
      omega
    rw [e] at h2
    exact h2
theorem rbd_zero {D M n : Nat} : RBd D M (List.replicate n 0) := fun q hq => by
  rw [List.eq_of_mem_replicate hq]
  exact bq_zero
theorem mulQ_bd {D E M N : Nat} {ps rs : List Rat} (hD : 0 < D) (hE : 0 < E) (hp : RBd D M ps) (hr : RBd E N rs) : RBd (D * E) (ps.length * (M * N)) (mulQ ps rs) := fun q hq => by
  unfold mulQ at hq
  split at hq
  · cases hq
  · have := conv_bd hD hE ps rs _ 0 0 hp hr (rbd_zero (n := ps.length + rs.length - 1)) q (trimQ_mem hq)
    rw [Nat.zero_add] at this
    exact this
/-! ### promises -/
def sp_L_trimmed (K : PySem.W.Frag) : Sp := fun vs H Q _ => ∃ (v : V) (ps : List Rat), vs = [v] ∧ IsL (IsQ K H) H v ps ∧ ps.length ≤ 1000 ∧ RetP (fun z H' => IsT K (IsQ K H') H' z (trimQ ps)) H Q
def sp_L_row_plus (K : PySem.W.Frag) : Sp := fun vs H Q _ => ∃ (v u : V) (ps rs : List Rat) (n m : Nat), vs = [v, u] ∧ IsL (IsQ K H) H v ps ∧ IsT K (IsQ K H) H u rs ∧ ps.length ≤ 400 ∧ rs.length ≤ 400 ∧ (∀ q ∈ ps, QB n q) ∧ (∀ q ∈ rs, QB m q) ∧ n + m ≤ 29000 ∧ 0 < n ∧ 0 < m ∧
  RetP (fun z H' => IsT K (IsQ K H') H' z (addQ ps rs)) H Q
/-- two rows whose product is small enough -/
def MulOk (ps rs : List Rat) : Prop := ps.length ≤ 400 ∧ rs.length ≤ 400 ∧ ∃ D E M N : Nat, 0 < D ∧ 0 < E ∧ RBd D M ps ∧ RBd E N rs ∧ D < 2 ^ 2000 ∧ E < 2 ^ 2000 ∧ M < 2 ^ 2000 ∧ N < 2 ^ 2000 ∧ D * E < 2 ^ 2000 ∧ (ps.length + 1) * (M * N) < 2 ^ 2000
def sp_L_row_times (K : PySem.W.Frag) : Sp := fun vs H Q _ => ∃ (v u : V) (ps rs : List Rat), vs = [v, u] ∧ IsT K (IsQ K H) H v ps ∧ IsT K (IsQ K H) H u rs ∧ MulOk ps rs ∧ RetP (fun z H' => IsT K (IsQ K H') H' z (mulQ ps rs)) H Q
section
variable {P : Program} {w : World} {K : PySem.W.Frag} {mg : Str → Option Value} {base : Heap}
theorem pairedQ_mono {H H' : Hp} (e : Same H H') {vs : List V} {qs : List Rat} (h : Paired (IsQ K H) vs qs) : Paired (IsQ K H') vs qs := paired_mono h fun _ _ r => r.mono e
theorem pairedQ_gr {H H' : Hp} (e : Gr H H') {vs : List V} {qs : List Rat} (h : Paired (IsQ K H) vs qs) : Paired (IsQ K H') vs qs := paired_mono h fun _ _ r => r.gr e
theorem paired_take {R : V → α → Prop} : ∀ {vs : List V} {xs : List α} (n : Nat), Paired R vs xs → Paired R (vs.take n) (xs.take n)
  | _, _, 0, _ => .nil
  | _, _, _ + 1, .nil => .nil
  | _, _, n + 1, .cons r t => .cons r (paired_take n t)
theorem h_L_trimmed (T : Txt K mg) {k : Nat} : Has P w K mg base "_law_trimmed" ["_law_row"] (k + 1) (sp_L_trimmed K) := by
  refine has_of T.d_L_trimmed sc_L_trimmed (fun vs H Q E h => ?_) (fun f cdv A outer s H vs Q E hr h => ?_)
  · obtain ⟨v, ps, rfl, _⟩ := h
    rfl
  · obtain ⟨v, ps, rfl, ⟨a, vs, rfl, hA, hP⟩, hl, q⟩ := h
    have lvs : vs.length = ps.length := hP.length
    refine ⟨_, (pss_cons (ps_set (i := 1) sc_L_trimmed.nd rfl (.inl rfl) (pe_callB call_len_seq (by rfl) T.b_len PySem.boot_len (pa_cons (pv 0) pa_nil))) (Evl.pss_cut (ps_for PassesOwn.never rfl (pi_range1 (by rfl) T.b_range (pa_cons (pe_callB call_len_seq (by rfl) T.b_len PySem.boot_len (pa_cons (pv 0) pa_nil)) pa_nil)) (pg_name (i := 2) sc_L_trimmed.nd rfl (.inl rfl)) (Evl.pss_cut (ps_if (pt_cmpR (op_neD hr.units) (pe_ix ix_list (pv 0) (pe_op op_sub (pv 1) pe_int) (fun _ _ => rfl)) (pe_tup (pa_cons pe_int (pa_cons pe_int pa_nil))) (nomark _)) (pss_one ps_break) pss_nil) (pss_one (ps_set (i := 1) sc_L_trimmed.nd rfl (.inl rfl) (pe_op op_sub (pv 1) pe_int))))) (pss_one (ps_ret (pe_callTy call_tuple_of (by rfl) T.b_tuple (by decide +kernel) (pa_cons (pe_slice sl_list (pv 0) po_none (po_some (pv 1))) pa_nil)))))), ?_⟩
    refine ⟨_, rfl, a, _, rfl, .inl (.of hA), ?_⟩
    refine ⟨fun σ H' => (∃ y, σ = [some (.ref a), some (.int (manyQ ps ps.length : Nat)), y]) ∧ Same H H', ?_, fun σ H' hM => ?_⟩
    · refine ⟨_, rfl, a, _, rfl, .inl (.of hA), (vs.length : Int), rfl, by omega, by omega, for_range (lo := 0) (n := ((vs.length : Nat) : Int).toNat) (fun i σ H' => (∃ (m : Nat) (y : Option V), σ = [some (.ref a), some (.int (m : Nat)), y] ∧ m + i = ps.length ∧ manyQ ps m = manyQ ps ps.length) ∧ Same H H')
        ⟨⟨ps.length, none, (by rw [← lvs]; try rfl), by omega, rfl⟩, Same.refl _⟩ (fun i σ H' hi h => ?_) (fun σ H' h => ?_)⟩
      · obtain ⟨⟨m, y, rfl, hm, hmm⟩, sm⟩ := h
        obtain ⟨m, rfl⟩ : ∃ m', m = m' + 1 := ⟨m - 1, by omega⟩
        have hml : m < ps.length := by omega
        obtain ⟨u, eu, hu⟩ := paired_get' hP (List.getElem?_eq_getElem hml)
        have e1 : ((m + 1 : Nat) : Int) - 1 = (m : Int) := by omega
        refine ⟨fun σ' H'' => (∃ y, σ' = [some (.ref a), some (.int ((m + 1 : Nat) : Int)), y]) ∧ Same H H'' ∧ manyQ ps m = manyQ ps ps.length, ?_, fun σ' H'' hM => ?_⟩
        · refine ⟨_, rfl, _, rfl, _, _, rfl, rfl, a, _, _, u, rfl, rfl, .of (sm _ _ hA), at_of e1 eu, by show 2 ≤ sizeLine; decide, fun z hz => ?_⟩
          have s1 := same_new (o := .tup [.int 0, .int 1]) hz
          refine ⟨qD ps[m], qD 0, dp_of (hu.mono (sm.trans s1)), .tup (.of upd_same) (.cons (.int _) (.cons (.int _) .nil)), qD_shaped _, qD_shaped _, _, rfl, ?_⟩
          rw [qD_eqv]
          by_cases h0 : ps[m] = 0
          · refine ifF (by rw [decide_eq_true h0]; rfl) ?_
            refine ⟨⟨_, rfl⟩, sm.trans s1, ?_⟩
            rw [← hmm]
            exact (if_pos (by rw [List.getElem?_eq_getElem hml, h0])).symm
          · refine ifT (by rw [decide_eq_false h0]; rfl) ?_
            refine ⟨⟨some (.int ((0 : Int) + (i : Int))), ?_⟩, sm.trans s1⟩
            rw [← hmm, show manyQ ps (m + 1) = m + 1 from if_neg (by rw [List.getElem?_eq_getElem hml]; exact fun z => h0 (Option.some.inj z))]
            rfl
        · obtain ⟨⟨y', rfl⟩, s2, hm2⟩ := hM
          refine ⟨_, rfl, _, _, rfl, rfl, ?_⟩
          refine ⟨⟨m, y', ?_, by omega, hm2⟩, s2⟩
          show [_, some (V.int (((m + 1 : Nat) : Int) - 1)), _] = _
          rw [e1]
      · obtain ⟨⟨m, y, rfl, hm, hmm⟩, sm⟩ := h
        have : m = 0 := by omega
        subst this
        exact ⟨⟨_, by rw [← hmm]; rfl⟩, sm⟩
    · obtain ⟨⟨y, rfl⟩, sm⟩ := hM
      have hA' := sm _ _ hA
      refine ⟨_, rfl, _, rfl, _, rfl, a, _, rfl, .of hA', fun p hp => ?_⟩
      rw [cut_take]
      have s1 := same_new (o := .lst (vs.take (manyQ ps ps.length))) hp
      refine ⟨p, _, rfl, .inl ⟨.of upd_same, fun l hl => ?_⟩⟩
      have s2 := s1.trans (same_new (o := .tup (vs.take (manyQ ps ps.length))) hl)
      exact q _ _ (sm.trans s2) ⟨l, _, rfl, .of upd_same, pairedQ_mono (sm.trans s2) (paired_take _ hP)⟩
theorem rep_refs (n : Nat) (z : V) : (List.replicate n [z]).flatten = List.replicate n z := by
  induction n with
  | zero => rfl
  | succ n ih => rw [List.replicate_succ, List.replicate_succ, List.flatten_cons, ih]; rfl
theorem pad_z {H : Hp} {z : Addr} (hz : SqT K H z [.int 0, .int 1]) {vs : List V} {ps : List Rat} {n : Nat} (hP : Paired (IsQ K H) vs ps) : Paired (IsQ K H) (vs ++ List.replicate (n - ps.length) (.ref z)) (padded ps n) := by
  refine paired_app hP (paired_of (by rw [List.length_replicate, List.length_replicate]) fun i v y e1 e2 => ?_)
  have e3 := List.eq_of_mem_replicate (List.mem_of_getElem? e1)
  have e4 := List.eq_of_mem_replicate (List.mem_of_getElem? e2)
  subst e3 e4
  exact ⟨z, rfl, hz⟩
theorem qb_zero {n : Nat} (h : 0 < n) : QB n 0 := ⟨Nat.pow_pos (by decide), by show 1 < 2 ^ n; exact Nat.one_lt_two_pow (by omega)⟩
theorem padded_qb {qs : List Rat} {n m : Nat} (hm : 0 < m) (h : ∀ q ∈ qs, QB m q) : ∀ q ∈ padded qs n, QB m q := fun q hq => by
  rcases List.mem_append.mp hq with h1 | h1
  · exact h q h1
  · rw [List.eq_of_mem_replicate h1]
    exact qb_zero hm
theorem h_L_row_plus (T : Txt K mg) {k : Nat} (G_L_trimmed : Has P w K mg base "_law_trimmed" ["_law_row"] k (sp_L_trimmed K)) (G_L_plus : Has P w K mg base "_law_plus" ["_law_one", "_law_two"] k (sp_L_two K (· + ·))) : Has P w K mg base "_law_row_plus" ["_law_one", "_law_two"] (k + 1) (sp_L_row_plus K) := by
  refine has_of T.d_L_row_plus sc_L_row_plus (fun vs H Q E h => ?_) (fun f cdv A outer s H vs Q E hr h => ?_)
  · obtain ⟨v, u, ps, rs, n, m, rfl, _⟩ := h
    rfl
  · obtain ⟨v, u, ps, rs, n, m, rfl, ⟨a, vs, rfl, hA, hP⟩, ⟨b, us, rfl, hB, hR⟩, l1, l2, q1, q2, hnm, n0, m0, q⟩ := h
    have lvs : vs.length = ps.length := hP.length
    have lus : us.length = rs.length := hR.length
    refine ⟨_, (pss_cons (ps_set (i := 2) sc_L_row_plus.nd rfl (.inl rfl) (pe_callB (cr_max rfl) (by rfl) T.b_max (by decide +kernel) (pa_cons (pe_lst (pa_cons (pe_callB call_len_seq (by rfl) T.b_len PySem.boot_len (pa_cons (pv 0) pa_nil)) (pa_cons (pe_callB call_len_seq (by rfl) T.b_len PySem.boot_len (pa_cons (pv 1) pa_nil)) pa_nil))) pa_nil))) (pss_cons (ps_par (i := 3) (j := 4) (by rfl) sc_L_row_plus.nd rfl rfl (by decide) rfl rfl (pa_cons (pe_op op_cat (pe_callTy call_list_of (by rfl) T.b_list (by decide +kernel) (pa_cons (pv 0) pa_nil)) (pe_op op_rep (pe_lst (pa_cons (pe_tup (pa_cons pe_int (pa_cons pe_int pa_nil))) pa_nil)) (pe_op op_sub (pv 2) (pe_callB call_len_seq (by rfl) T.b_len PySem.boot_len (pa_cons (pv 0) pa_nil))))) (pa_cons (pe_op op_cat (pe_callTy call_list_of (by rfl) T.b_list (by decide +kernel) (pa_cons (pv 1) pa_nil)) (pe_op op_rep (pe_lst (pa_cons (pe_tup (pa_cons pe_int (pa_cons pe_int pa_nil))) pa_nil)) (pe_op op_sub (pv 2) (pe_callB call_len_seq (by rfl) T.b_len PySem.boot_len (pa_cons (pv 1) pa_nil))))) pa_nil)) (by rfl)) (pss_one (ps_ret (pe_callH G_L_trimmed hr (by rfl) (pa_cons (pe_lc (own := [("_law_a", 5), ("_law_b", 6)]) (g := (gTup K 2 (gCons (gName 5) (gCons (gName 6) gNil)))) rfl sc_L_row_plus.nd (pi_zip (by rfl) T.b_zip (pa_cons (pv 3) (pa_cons (pv 4) pa_nil))) (blkOk_by (own := [("_law_a", 5), ("_law_b", 6)]) (N := ["_law_one", "_law_two", "_law_many", "_law_left", "_law_right", "_law_a", "_law_b"]) (sc := defScope s_L_row_plus) (by decide +kernel)) (fun _ _ _ _ _ => (pg_tup rfl (pgs_cons (pg_name (i := 5) sc_L_row_plus.nd rfl (.inl rfl) (hf := .inr rfl)) (pgs_cons (pg_name (i := 6) sc_L_row_plus.nd rfl (.inl rfl) (hf := .inr rfl)) pgs_nil)))) (fun _ _ _ _ _ => pts_nil) (fun _ _ _ _ _ => (pe_callH G_L_plus hr (by rfl) (pa_cons (pv 5) (pa_cons (pv 6) pa_nil))))) pa_nil)))))), ?_⟩
    -- many
    refine ⟨_, rfl, a, _, rfl, .inl (.of hA), _, rfl, b, _, rfl, .inr hB, by show 2 ≤ sizeLine; decide, fun p hp => ?_⟩
    have s1 := same_new (o := .lst [.int (vs.length : Nat), .int (us.length : Nat)]) hp
    refine ⟨p, [(vs.length : Int), (us.length : Int)], rfl, .of upd_same, Nat.succ_pos _, fun mx hm hmx => ?_⟩
    have em : mx = ((max ps.length rs.length : Nat) : Int) := by
      have h1 := hmx _ List.mem_cons_self
      have h2 := hmx _ (List.mem_cons_of_mem _ List.mem_cons_self)
      have h3 : mx = (vs.length : Int) ∨ mx = (us.length : Int) := by simpa using hm
      rw [← lvs, ← lus]
      omega
    subst em
    generalize hmany : max ps.length rs.length = many
    -- left, right
    refine ⟨_, rfl, a, _, rfl, .inl (.of (s1 _ _ hA)), fun a2 ha2 => ?_⟩
    have s2 := s1.trans (same_new (o := .lst vs) ha2)
    have e2 : ∀ H', Same (upd (upd H p (.lst [.int (vs.length : Nat), .int (us.length : Nat)])) a2 (.lst vs)) H' → H' a2 = some (.lst vs) := fun H' s => s _ _ upd_same
    refine ⟨by show 2 ≤ sizeLine; decide, fun z1 hz1 => ?_⟩
    have s3 := same_new (o := .tup [.int 0, .int 1]) hz1
    refine ⟨by show 1 ≤ sizeLine; decide, fun z2 hz2 => ?_⟩
    have s4 := s3.trans (same_new (o := .lst [.ref z1]) hz2)
    refine ⟨_, rfl, _, rfl, a, _, rfl, .inl (.of ((s2.trans s4) _ _ hA)), _, _, rfl, rfl, z2, _, _, rfl, rfl, upd_same, by omega, by omega, by show 1 * _ ≤ sizeLine; rw [sizeLine_eq]; omega, fun z3 hz3 => ?_⟩
    rw [rep_refs, show ((many : Int) - (vs.length : Int)).toNat = many - ps.length by omega]
    have s5 := s4.trans (same_new (o := .lst (List.replicate (many - ps.length) (.ref z1))) hz3)
    refine ⟨a2, z3, vs, _, rfl, rfl, s5 _ _ upd_same, upd_same, by rw [List.length_replicate]; exact Nat.le_trans (show _ ≤ 1000 by omega) (by decide), fun L hL => ?_⟩
    have s6 := s5.trans (same_new (o := .lst (vs ++ List.replicate (many - ps.length) (.ref z1))) hL)
    have t1 : SqT K _ z1 [.int 0, .int 1] := SqT.of ((((same_new (o := .lst [.ref z1]) hz2).trans (same_new (o := .lst (List.replicate (many - ps.length) (.ref z1))) hz3)).trans (same_new (o := .lst (vs ++ List.replicate (many - ps.length) (.ref z1))) hL)) _ _ upd_same)
    have eL := upd_same (H := upd (upd (upd (upd (upd H p (.lst [.int (vs.length : Nat), .int (us.length : Nat)])) a2 (.lst vs)) z1 (.tup [.int 0, .int 1])) z2 (.lst [.ref z1])) z3 (.lst (List.replicate (many - ps.length) (.ref z1)))) (a := L) (o := .lst (vs ++ List.replicate (many - ps.length) (.ref z1)))
    have s26 := s2.trans s6
    have hP6 := pad_z (n := many) t1 (pairedQ_mono s26 hP)
    have hB6 := Same.t s26 hB
    generalize upd (upd (upd (upd (upd (upd H p (.lst [.int (vs.length : Nat), .int (us.length : Nat)])) a2 (.lst vs)) z1 (.tup [.int 0, .int 1])) z2 (.lst [.ref z1])) z3 (.lst (List.replicate (many - ps.length) (.ref z1)))) L (.lst (vs ++ List.replicate (many - ps.length) (.ref z1))) = H6 at s26 hP6 hB6 eL
    refine ⟨_, rfl, b, _, rfl, .inr hB6, fun b2 hb2 => ?_⟩
    refine ⟨by show 2 ≤ sizeLine; decide, fun y1 hy1 => ?_⟩
    have r1 := same_new (o := .lst us) hb2
    have r3 := same_new (o := .tup [.int 0, .int 1]) hy1
    refine ⟨by show 1 ≤ sizeLine; decide, fun y2 hy2 => ?_⟩
    have r4 := r3.trans (same_new (o := .lst [.ref y1]) hy2)
    refine ⟨_, rfl, _, rfl, b, _, rfl, .inr (Same.t (r1.trans r4) hB6), _, _, rfl, rfl, y2, _, _, rfl, rfl, upd_same, by omega, by omega, by show 1 * _ ≤ sizeLine; rw [sizeLine_eq]; omega, fun y3 hy3 => ?_⟩
    rw [rep_refs, show ((many : Int) - (us.length : Int)).toNat = many - rs.length by omega]
    have r5 := r4.trans (same_new (o := .lst (List.replicate (many - rs.length) (.ref y1))) hy3)
    refine ⟨b2, y3, us, _, rfl, rfl, r5 _ _ upd_same, upd_same, by rw [List.length_replicate]; exact Nat.le_trans (show _ ≤ 1000 by omega) (by decide), fun R hR' => ?_⟩
    have r6 := r5.trans (same_new (o := .lst (us ++ List.replicate (many - rs.length) (.ref y1))) hR')
    have t2 : SqT K _ y1 [.int 0, .int 1] := SqT.of ((((same_new (o := .lst [.ref y1]) hy2).trans (same_new (o := .lst (List.replicate (many - rs.length) (.ref y1))) hy3)).trans (same_new (o := .lst (us ++ List.replicate (many - rs.length) (.ref y1))) hR')) _ _ upd_same)
    have r16 := r1.trans r6
    have hR7 := pad_z (n := many) t2 (pairedQ_mono (s26.trans r16) hR)
    have hP7 := pairedQ_mono r16 hP6
    have eL7 := r16 _ _ eL
    have eR7 := upd_same (H := upd (upd (upd (upd H6 b2 (.lst us)) y1 (.tup [.int 0, .int 1])) y2 (.lst [.ref y1])) y3 (.lst (List.replicate (many - rs.length) (.ref y1)))) (a := R) (o := .lst (us ++ List.replicate (many - rs.length) (.ref y1)))
    have s17 := s26.trans r16
    refine ⟨_, _, rfl, ?_⟩
    generalize upd (upd (upd (upd (upd H6 b2 (.lst us)) y1 (.tup [.int 0, .int 1])) y2 (.lst [.ref y1])) y3 (.lst (List.replicate (many - rs.length) (.ref y1)))) R (.lst (us ++ List.replicate (many - rs.length) (.ref y1))) = H7 at hR7 hP7 eL7 eR7 s17
    have k1 := padded_len ps many (by omega)
    have k2 := padded_len rs many (by omega)
    have k3 := hP7.length
    have k4 := hR7.length
    -- the sums
    refine ⟨_, rfl, _, rfl, L, R, _, _, rfl, .of eL7, .of eR7, fun D hD => lcZ (n := many) (fun i v H' => ∃ x : Rat, ((padded ps many).zipWith (· + ·) (padded rs many))[i]? = some x ∧ IsQ K H' v x) (by omega) (by omega) hD eL7 eR7 (fun i v H H' g ⟨x, e, h⟩ => ⟨x, e, h.gr g⟩) (fun i x y T' H' hx hy s4 hT Qk Nx k => ?_) (fun H8 ws s8 hW hl hv => ?_)⟩
    · obtain ⟨x1, ex1, hx1⟩ := paired_get hP7 hx
      obtain ⟨x2, ex2, hx2⟩ := paired_get hR7 hy
      refine ⟨T', _, rfl, .of hT, rfl, _, _, rfl, _, _, rfl, rfl, ?_⟩
      refine yesE rfl ?_
      refine ⟨_, rfl, _, rfl, _, _, x1, x2, n, m, rfl, hx1.mono s4, hx2.mono s4, padded_qb n0 q1 x1 (List.mem_of_getElem? ex1), padded_qb m0 q2 x2 (List.mem_of_getElem? ex2), by omega, fun v3 H3 s3 h3 => ?_⟩
      refine k _ _ s3 ⟨x1 + x2, ?_, h3⟩
      rw [List.getElem?_zipWith, ex1, ex2]
    · refine ⟨_, (padded ps many).zipWith (· + ·) (padded rs many), rfl, ⟨D, ws, rfl, hW, paired_of (by rw [hl, List.length_zipWith]; omega) fun i v y e1 e2 => ?_⟩, by rw [List.length_zipWith]; omega, fun z9 H9 s9 hz9 => ?_⟩
      · obtain ⟨x, e3, h3⟩ := hv i v e1
        rw [e2] at e3
        cases e3
        exact h3
      · refine q _ _ (s17.trans (s8.trans s9)) ?_
        have e : addQ ps rs = trimQ ((padded ps many).zipWith (· + ·) (padded rs many)) := by
          unfold addQ
          rw [hmany]
        rw [e]
        exact hz9
end
end Kq

set_option Elab.async false
set_option linter.all false
set_option maxRecDepth 100000
set_option maxHeartbeats 4000000
/-! the law's products and values of rows -/
namespace Kq
open PySem PySem.Spec PyProof.Rows L2
/-! ### a value, by Horner's rule -/
def evQ (l : List Rat) (x : Rat) : Rat := l.foldr (fun c s => s * x + c) 0
theorem evQ_nil (x : Rat) : evQ [] x = 0 := rfl
theorem evQ_cons (c : Rat) (l : List Rat) (x : Rat) : evQ (c :: l) x = evQ l x * x + c := rfl
/-- a row and a point whose value can be reckoned -/
def AtQ (ps : List Rat) (x : Rat) : Prop := ps.length ≤ 400 ∧ ∃ D M b : Nat, 0 < D ∧ RBd D M ps ∧ D < 2 ^ 1000 ∧ M < 2 ^ 1000 ∧ x.num.natAbs < 2 ^ b ∧ x.den < 2 ^ b ∧ 0 < b ∧ ps.length * (b + 1) ≤ 14000 ∧ b ≤ 3000
theorem pow_bd {x b k : Nat} (h : x < 2 ^ b) : x ^ k ≤ 2 ^ (b * k) := by
  rw [Nat.pow_mul]
  exact Nat.pow_le_pow_left (Nat.le_of_lt h) k
/-- the value of what is left, over D times a power of the bottom -/
theorem evQ_bd {D M b : Nat} {x : Rat} (hD : 0 < D) (hx : x.num.natAbs < 2 ^ b) (hd : x.den < 2 ^ b) : ∀ ps : List Rat, RBd D M ps → BQ (D * x.den ^ ps.length) (M * 2 ^ (ps.length * (b + 1))) (evQ ps x)
  | [], _ => bq_zero
  | c :: ps, h => by
    have h1 := evQ_bd hD hx hd ps (fun q hq => h q (List.mem_cons_of_mem _ hq))
    have h2 := h c List.mem_cons_self
    have hp : 0 < x.den ^ ps.length := Nat.pow_pos x.den_pos
    have h3 := BQ.mul (Nat.mul_pos hD hp) x.den_pos h1 (bq_self x)
    have h4 := h2.up (x.den ^ ps.length * x.den) hD (Nat.mul_pos hp x.den_pos)
    rw [show D * (x.den ^ ps.length * x.den) = D * x.den ^ ps.length * x.den from (Nat.mul_assoc _ _ _).symm] at h4
    have h5 := BQ.add h3 h4
    rw [evQ_cons]
    show BQ (D * x.den ^ (ps.length + 1)) (M * 2 ^ ((ps.length + 1) * (b + 1))) _
    rw [Nat.pow_succ, ← Nat.mul_assoc]
    refine h5.mono ?_
    have e1 : (ps.length + 1) * (b + 1) = ps.length * (b + 1) + b + 1 := by rw [Nat.succ_mul]; omega
    have e2 : (2 : Nat) ^ ((ps.length + 1) * (b + 1)) = 2 ^ (ps.length * (b + 1)) * 2 ^ b * 2 := by rw [e1, Nat.pow_succ, Nat.pow_add]
    have m1 : M * 2 ^ (ps.length * (b + 1)) * x.num.natAbs ≤ M * 2 ^ (ps.length * (b + 1)) * 2 ^ b := Nat.mul_le_mul_left _ (Nat.le_of_lt hx)
    have m2 : x.den ^ ps.length * x.den ≤ 2 ^ (ps.length * (b + 1)) * 2 ^ b := by
      refine Nat.mul_le_mul ?_ (Nat.le_of_lt hd)
      refine Nat.le_trans (pow_bd hd) (Nat.pow_le_pow_right (by decide) ?_)
      rw [Nat.mul_comm]
      exact Nat.mul_le_mul_left _ (by omega)
    have m3 : M * (x.den ^ ps.length * x.den) ≤ M * (2 ^ (ps.length * (b + 1)) * 2 ^ b) := Nat.mul_le_mul_left _ m2
    rw [e2]
    have e3 : M * (2 ^ (ps.length * (b + 1)) * 2 ^ b * 2) = M * (2 ^ (ps.length * (b + 1)) * 2 ^ b) + M * (2 ^ (ps.length * (b + 1)) * 2 ^ b) := by
      rw [← Nat.mul_assoc, Nat.mul_two]
    have e4 : M * 2 ^ (ps.length * (b + 1)) * 2 ^ b = M * (2 ^ (ps.length * (b + 1)) * 2 ^ b) := Nat.mul_assoc _ _ _
    omega
def sp_L_row_at (K : PySem.W.Frag) : Sp := fun vs H Q _ => ∃ (v u : V) (ps : List Rat) (x : Rat), vs = [v, u] ∧ IsT K (IsQ K H) H v ps ∧ IsQ K H u x ∧ AtQ ps x ∧ RetP (fun z H' => IsQ K H' z (evQ ps x)) H Q
section
variable {P : Program} {w : World} {K : PySem.W.Frag} {mg : Str → Option Value} {base : Heap}
theorem h_L_row_at (T : Txt K mg) {k : Nat} (G_L_plus : Has P w K mg base "_law_plus" ["_law_one", "_law_two"] k (sp_L_two K (· + ·))) (G_L_by : Has P w K mg base "_law_by" ["_law_one", "_law_two"] k (sp_L_two K (· * ·))) : Has P w K mg base "_law_row_at" ["_law_row", "_law_p"] (k + 1) (sp_L_row_at K) := by
  refine has_of T.d_L_row_at sc_L_row_at (fun vs H Q E h => ?_) (fun f cdv A outer s H vs Q E hr h => ?_)
  · obtain ⟨v, u, ps, x, rfl, _⟩ := h
    rfl
  · obtain ⟨v, u, ps, x, rfl, ⟨a, vs, rfl, hA, hP⟩, hu, ⟨hl, D, M, b, hD, hB, d1, m1, x1, x2, b0, hlb, b3⟩, q⟩ := h
    have lvs : vs.length = ps.length := hP.length
    refine ⟨_, (pss_cons (ps_set (i := 2) sc_L_row_at.nd rfl (.inl rfl) (pe_tup (pa_cons pe_int (pa_cons pe_int pa_nil)))) (Evl.pss_cut (ps_for PassesOwn.never rfl (pi_list (pe_revL (pe_callTy call_list_of (by rfl) T.b_list (by decide +kernel) (pa_cons (pv 0) pa_nil)))) (pg_name (i := 3) sc_L_row_at.nd rfl (.inl rfl)) (pss_one (ps_set (i := 2) sc_L_row_at.nd rfl (.inl rfl) (pe_callH G_L_plus hr (by rfl) (pa_cons (pe_callH G_L_by hr (by rfl) (pa_cons (pv 2) (pa_cons (pv 1) pa_nil))) (pa_cons (pv 3) pa_nil)))))) (pss_one (ps_ret (pv 2))))), ?_⟩
    refine ⟨by show 2 ≤ sizeLine; decide, fun z hz => ?_⟩
    have s1 := same_new (o := .tup [.int 0, .int 1]) hz
    refine ⟨fun σ H' => ∃ t y, σ = [some (.ref a), some u, some t, y] ∧ Same H H' ∧ IsQ K H' t (evQ ps x), ?_, fun σ H' hM => ?_⟩
    · refine ⟨_, rfl, a, _, rfl, .inr (Same.t s1 hA), fun l1 hl1 => ?_⟩
      have s2 := s1.trans (same_new (o := .lst vs) hl1)
      refine ⟨l1, _, rfl, .of upd_same, fun l2 hl2 => ?_⟩
      have s3 := s2.trans (same_new (o := .lst vs.reverse) hl2)
      refine ⟨l2, rfl, ⟨_, .of upd_same⟩, for_list (xs := vs.reverse) (fun i σ H' => (∃ t y, σ = [some (.ref a), some u, some t, y] ∧ IsQ K H' t (evQ (ps.drop (ps.length - i)) x)) ∧ Same (upd (upd (upd H z (.tup [.int 0, .int 1])) l1 (.lst vs)) l2 (.lst vs.reverse)) H')
        ⟨⟨.ref z, none, rfl, ?_⟩, Same.refl _⟩ (fun i σ H' _ h => .of (h.2 _ _ upd_same)) (fun i y σ H' hx h => ?_) (fun σ H' h => ?_)⟩
      · rw [Nat.sub_zero, List.drop_length]
        exact ⟨z, rfl, .of ((same_new hl2) _ _ ((same_new hl1) _ _ upd_same))⟩
      · obtain ⟨⟨t, y', rfl, ht⟩, sm⟩ := h
        have hi : i < ps.length := by
          have := (List.getElem?_eq_some_iff.mp hx).1
          rw [List.length_reverse] at this
          omega
        rw [List.getElem?_reverse (by omega), lvs] at hx
        obtain ⟨c, ec, hc⟩ := paired_get hP hx
        have ed : ps.drop (ps.length - (i + 1)) = c :: ps.drop (ps.length - i) := by
          have h1 : ps.length - 1 - i < ps.length := by omega
          have h2 : ps[ps.length - 1 - i] = c := by
            rw [List.getElem?_eq_getElem h1] at ec
            exact Option.some.inj ec
          rw [show ps.length - (i + 1) = ps.length - 1 - i by omega, List.drop_eq_getElem_cons h1, h2]
          congr 2
          omega
        have hbs : RBd D M (ps.drop (ps.length - i)) := fun q hq => hB q (List.mem_of_mem_drop hq)
        have ld : (ps.drop (ps.length - i)).length = i := by rw [List.length_drop]; omega
        have hbd := evQ_bd hD x1 x2 _ hbs
        rw [ld] at hbd
        have hib : i * (b + 1) ≤ ps.length * (b + 1) := Nat.mul_le_mul_right _ (by omega)
        have hden : 0 < D * x.den ^ i := Nat.mul_pos hD (Nat.pow_pos x.den_pos)
        have k1 : D * x.den ^ i < 2 ^ (1000 + i * (b + 1)) := by
          rw [Nat.pow_add]
          refine Nat.mul_lt_mul_of_lt_of_le d1 (Nat.le_trans (pow_bd x2) (Nat.pow_le_pow_right (by decide) ?_)) (Nat.pow_pos (by decide))
          rw [Nat.mul_comm]
          exact Nat.mul_le_mul_left _ (by omega)
        have k2 : M * 2 ^ (i * (b + 1)) < 2 ^ (1000 + i * (b + 1)) := by
          rw [Nat.pow_add]
          exact Nat.mul_lt_mul_of_pos_right m1 (Nat.pow_pos (by decide))
        have qb1 : QB 15000 (evQ (ps.drop (ps.length - i)) x) := hbd.qb hden (Nat.lt_of_lt_of_le k1 (Nat.pow_le_pow_right (by decide) (by omega))) (Nat.lt_of_lt_of_le k2 (Nat.pow_le_pow_right (by decide) (by omega)))
        have qbx : QB b x := ⟨x1, x2⟩
        have hmul := BQ.mul hden x.den_pos hbd (bq_self x)
        have k3 : D * x.den ^ i * x.den < 2 ^ (1000 + i * (b + 1) + b) := by
          rw [Nat.pow_add _ (1000 + _)]
          exact Nat.mul_lt_mul'' k1 x2
        have k4 : M * 2 ^ (i * (b + 1)) * x.num.natAbs < 2 ^ (1000 + i * (b + 1) + b) := by
          rw [Nat.pow_add _ (1000 + _)]
          exact Nat.mul_lt_mul'' k2 x1
        have qb2 : QB 18000 (evQ (ps.drop (ps.length - i)) x * x) := hmul.qb (Nat.mul_pos hden x.den_pos) (Nat.lt_of_lt_of_le k3 (Nat.pow_le_pow_right (by decide) (by omega))) (Nat.lt_of_lt_of_le k4 (Nat.pow_le_pow_right (by decide) (by omega)))
        have qbc : QB 1000 c := (hB c (List.mem_of_getElem? ec)).qb hD d1 m1
        have s3' := s3.trans sm
        refine ⟨_, rfl, _, rfl, _, _, _, x, 15000, b, rfl, ht, hu.mono s3', qb1, qbx, by omega, fun v3 H3 s4 h3 => ?_⟩
        refine ⟨_, rfl, _, _, _, c, 18000, 1000, rfl, h3, hc.mono (s3'.trans s4), qb2, qbc, by omega, fun v5 H5 s5 h5 => ?_⟩
        refine ⟨⟨v5, some y, rfl, ?_⟩, sm.trans (s4.trans s5)⟩
        rw [ed, evQ_cons]
        exact h5
      · obtain ⟨⟨t, y', rfl, ht⟩, sm⟩ := h
        rw [List.length_reverse, lvs, Nat.sub_self, List.drop_zero] at ht
        exact ⟨t, y', rfl, s3.trans sm, ht⟩
    · obtain ⟨t, y, rfl, sm, ht⟩ := hM
      exact ⟨_, rfl, q _ _ sm ht⟩
theorem h_L_row_times (T : Txt K mg) {k : Nat} (G_L_trimmed : Has P w K mg base "_law_trimmed" ["_law_row"] k (sp_L_trimmed K)) (G_L_plus : Has P w K mg base "_law_plus" ["_law_one", "_law_two"] k (sp_L_two K (· + ·))) (G_L_by : Has P w K mg base "_law_by" ["_law_one", "_law_two"] k (sp_L_two K (· * ·))) : Has P w K mg base "_law_row_times" ["_law_one", "_law_two"] (k + 1) (sp_L_row_times K) := by
  refine has_of T.d_L_row_times sc_L_row_times (fun vs H Q E h => ?_) (fun f cdv A outer s H vs Q E hr h => ?_)
  · obtain ⟨v, u, ps, rs, rfl, _⟩ := h
    rfl
  · obtain ⟨v, u, ps, rs, rfl, ⟨a, vs, rfl, hA, hP⟩, ⟨b, us, rfl, hB, hR⟩, ⟨l1, l2, D, E', M, N, hD, hE, bp, br, d1, d2, d3, d4, d5, d6⟩, q⟩ := h
    have lvs : vs.length = ps.length := hP.length
    have lus : us.length = rs.length := hR.length
    refine ⟨_, (Evl.pss_cut (ps_if (PW.pt (pw_or (pt_cmpR op_eq (pe_callB call_len_seq (by rfl) T.b_len PySem.boot_len (pa_cons (pv 0) pa_nil)) pe_int (nomark _)) (pw_or1 (pt_cmpR op_eq (pe_callB call_len_seq (by rfl) T.b_len PySem.boot_len (pa_cons (pv 1) pa_nil)) pe_int (nomark _))))) (pss_one (ps_ret (pe_tup pa_nil))) pss_nil) (pss_cons (ps_set (i := 2) sc_L_row_times.nd rfl (.inl rfl) (pe_op op_rep (pe_lst (pa_cons (pe_tup (pa_cons pe_int (pa_cons pe_int pa_nil))) pa_nil)) (pe_op op_sub (pe_op op_add (pe_callB call_len_seq (by rfl) T.b_len PySem.boot_len (pa_cons (pv 0) pa_nil)) (pe_callB call_len_seq (by rfl) T.b_len PySem.boot_len (pa_cons (pv 1) pa_nil))) pe_int))) (Evl.pss_cut (ps_for PassesOwn.never rfl (pi_range1 (by rfl) T.b_range (pa_cons (pe_callB call_len_seq (by rfl) T.b_len PySem.boot_len (pa_cons (pv 0) pa_nil)) pa_nil)) (pg_name (i := 3) sc_L_row_times.nd rfl (.inl rfl)) (pss_one (ps_for PassesOwn.never rfl (pi_range1 (by rfl) T.b_range (pa_cons (pe_callB call_len_seq (by rfl) T.b_len PySem.boot_len (pa_cons (pv 1) pa_nil)) pa_nil)) (pg_name (i := 4) sc_L_row_times.nd rfl (.inl rfl)) (pss_one (ps_asg (pe_callH G_L_plus hr (by rfl) (pa_cons (pe_ix ix_list (pv 2) (pe_op op_add (pv 3) (pv 4)) (fun _ _ => rfl)) (pa_cons (pe_callH G_L_by hr (by rfl) (pa_cons (pe_ix ix_tup (pv 0) (pv 3) (fun _ _ => rfl)) (pa_cons (pe_ix ix_tup (pv 1) (pv 4) (fun _ _ => rfl)) pa_nil))) pa_nil))) (pg_sub (pv 2) (pe_op op_add (pv 3) (pv 4)) set_list)))))) (pss_one (ps_ret (pe_callH G_L_trimmed hr (by rfl) (pa_cons (pv 2) pa_nil))))))), ?_⟩
    -- one of them empty
    refine ⟨fun σ H' => σ = [some (.ref a), some (.ref b), none, none, none] ∧ H = H' ∧ ps ≠ [] ∧ rs ≠ [], ?_, fun σ H' hM => ?_⟩
    · refine ⟨_, rfl, a, _, rfl, .inr hA, rfl, _, rfl, ?_⟩
      by_cases h1 : ps = []
      · refine ifT (decide_eq_true (by rw [lvs, h1]; rfl)) ?_
        refine iteT ⟨by show 0 ≤ sizeLine; decide, fun p hp => ?_⟩
        refine q _ _ (same_new hp) ⟨p, [], rfl, .of upd_same, ?_⟩
        rw [show mulQ ps rs = [] from if_pos (.inl h1)]
        exact .nil
      have h1' : 0 < ps.length := List.length_pos_iff.mpr h1
      refine ifF (decide_eq_false (fun z => by have := V.int.inj z; omega)) ?_
      refine ⟨_, rfl, b, _, rfl, .inr hB, rfl, _, rfl, ?_⟩
      by_cases h2 : rs = []
      · refine ifT (decide_eq_true (by rw [lus, h2]; rfl)) ?_
        refine ⟨by show 0 ≤ sizeLine; decide, fun p hp => ?_⟩
        refine q _ _ (same_new hp) ⟨p, [], rfl, .of upd_same, ?_⟩
        rw [show mulQ ps rs = [] from if_pos (.inr h2)]
        exact .nil
      have h2' : 0 < rs.length := List.length_pos_iff.mpr h2
      refine ifF (decide_eq_false (fun z => by have := V.int.inj z; omega)) ?_
      exact ⟨rfl, rfl, h1, h2⟩
    obtain ⟨rfl, rfl, h1, h2⟩ := hM
    have h1' : 0 < ps.length := List.length_pos_iff.mpr h1
    have h2' : 0 < rs.length := List.length_pos_iff.mpr h2
    generalize hn : ps.length + rs.length - 1 = n
    -- found
    refine ⟨by show 2 ≤ sizeLine; decide, fun z1 hz1 => ?_⟩
    have s1 := same_new (o := .tup [.int 0, .int 1]) hz1
    refine ⟨by show 1 ≤ sizeLine; decide, fun z2 hz2 => ?_⟩
    have s2 := s1.trans (same_new (o := .lst [.ref z1]) hz2)
    refine ⟨_, rfl, a, _, rfl, .inr (Same.t s2 hA), _, rfl, b, _, rfl, .inr (Same.t s2 hB), _, _, rfl, rfl, _, _, rfl, rfl, z2, _, _, rfl, rfl, upd_same, by omega, by omega, by show 1 * _ ≤ sizeLine; rw [sizeLine_eq]; omega, fun F hF => ?_⟩
    rw [rep_refs, show ((vs.length : Int) + (us.length : Int) - 1).toNat = n by omega]
    have s3 := same_new (o := .lst (List.replicate n (.ref z1))) hF
    have nF : H F = none := s2.free hF
    have t1 : SqT K _ z1 [.int 0, .int 1] := SqT.of (((same_new (o := .lst [.ref z1]) hz2).trans s3) _ _ upd_same)
    have hP0 : Paired (IsQ K _) (List.replicate n (V.ref z1)) (List.replicate n (0 : Rat)) := paired_of (by rw [List.length_replicate, List.length_replicate]) fun i v y e1 e2 => by
      have e3 := List.eq_of_mem_replicate (List.mem_of_getElem? e1)
      have e4 := List.eq_of_mem_replicate (List.mem_of_getElem? e2)
      subst e3 e4
      exact ⟨z1, rfl, t1⟩
    have s23 := s2.trans s3
    have bnd : ∀ i j : Nat, i < ps.length → RBd (D * E') (i * (M * N)) (conv (List.replicate n 0) 0 (ps.take i) rs) := fun i j hi => by
      have := conv_bd hD hE (ps.take i) rs _ 0 0 (fun q hq => bp q (List.mem_of_mem_take hq)) br (rbd_zero (D := D * E') (M := 0) (n := n))
      rw [Nat.zero_add, List.length_take, Nat.min_eq_left (by omega)] at this
      exact this
    -- the loops
    refine ⟨fun σ H' => ∃ y3 y4 ws, σ = [some (.ref a), some (.ref b), some (.ref F), y3, y4] ∧ Same H H' ∧ H' F = some (.lst ws) ∧ Paired (IsQ K H') ws (conv (List.replicate n 0) 0 ps rs), ?_, fun σ H' hM => ?_⟩
    · refine ⟨_, rfl, a, _, rfl, .inr (Same.t s23 hA), (vs.length : Int), rfl, by omega, by omega, for_range (lo := 0) (n := ((vs.length : Nat) : Int).toNat) (fun i σ H' => ∃ y3 y4 ws, σ = [some (.ref a), some (.ref b), some (.ref F), y3, y4] ∧ Same H H' ∧ H' F = some (.lst ws) ∧ Paired (IsQ K H') ws (conv (List.replicate n 0) 0 (ps.take i) rs))
        ⟨none, none, _, rfl, s23, upd_same, hP0⟩ (fun i σ H' hi h => ?_) (fun σ H' h => ?_)⟩
      · obtain ⟨y3, y4, ws, rfl, sm, eF, hPc⟩ := h
        have hi' : i < ps.length := by omega
        obtain ⟨ua, eua, hua⟩ := paired_get' hP (List.getElem?_eq_getElem hi')
        have ea : bp ps[i] (List.getElem_mem hi') = bp ps[i] (List.getElem_mem hi') := rfl
        have lconv : ∀ j, (addAt (conv (List.replicate n 0) 0 (ps.take i) rs) i ps[i] (rs.take j)).length = n := fun j => by rw [addAt_len, conv_len, List.length_replicate]
        refine ⟨_, rfl, b, _, rfl, .inr (Same.t sm hB), (us.length : Int), rfl, by omega, by omega, for_range (lo := 0) (n := ((us.length : Nat) : Int).toNat) (fun j σ H' => ∃ y4 ws, σ = [some (.ref a), some (.ref b), some (.ref F), some (.int ((0 : Int) + (i : Int))), y4] ∧ Same H H' ∧ H' F = some (.lst ws) ∧ Paired (IsQ K H') ws (addAt (conv (List.replicate n 0) 0 (ps.take i) rs) i ps[i] (rs.take j)))
          ⟨y4, ws, rfl, sm, eF, hPc⟩ (fun j σ H'' hj h => ?_) (fun σ H'' h => ?_)⟩
        · obtain ⟨y4, ws, rfl, sm, eF, hPc⟩ := h
          have hj' : j < rs.length := by omega
          obtain ⟨ub, eub, hub⟩ := paired_get' hR (List.getElem?_eq_getElem hj')
          have lws : ws.length = n := by rw [hPc.length, lconv]
          have hij : i + j < ws.length := by omega
          have eij : ((0 : Int) + (i : Int)) + ((0 : Int) + (j : Int)) = ((i + j : Nat) : Int) := by omega
          have hijc : i + j < (addAt (conv (List.replicate n 0) 0 (ps.take i) rs) i ps[i] (rs.take j)).length := by rw [lconv]; omega
          obtain ⟨uo, euo, huo⟩ := paired_get' hPc (List.getElem?_eq_getElem hijc)
          -- how large
          have bcur := addAt_bd (c := i * (M * N)) hD hE (bp ps[i] (List.getElem_mem hi')) (rs.take j) (conv (List.replicate n 0) 0 (ps.take i) rs) i (fun q hq => br q (List.mem_of_mem_take hq)) (fun t x hx => ⟨(bnd i j hi' x (List.mem_of_getElem? hx)).mono (by omega), fun _ => bnd i j hi' x (List.mem_of_getElem? hx)⟩)
          have bold := bcur _ (List.getElem_mem hijc)
          have hMN : i * (M * N) + M * N ≤ (ps.length + 1) * (M * N) := by
            rw [← Nat.succ_mul]
            exact Nat.mul_le_mul_right _ (by omega)
          have hMN1 : M * N ≤ (ps.length + 1) * (M * N) := Nat.le_mul_of_pos_left _ (by omega)
          have qold : QB 2000 ((addAt (conv (List.replicate n 0) 0 (ps.take i) rs) i ps[i] (rs.take j))[i + j]) := bold.qb (Nat.mul_pos hD hE) d5 (Nat.lt_of_le_of_lt hMN d6)
          have qa : QB 2000 ps[i] := (bp _ (List.getElem_mem hi')).qb hD d1 d3
          have qb' : QB 2000 rs[j] := (br _ (List.getElem_mem hj')).qb hE d2 d4
          have qab : QB 2000 (ps[i] * rs[j]) := (BQ.mul hD hE (bp _ (List.getElem_mem hi')) (br _ (List.getElem_mem hj'))).qb (Nat.mul_pos hD hE) d5 (Nat.lt_of_le_of_lt hMN1 d6)
          refine ⟨_, rfl, _, rfl, _, rfl, _, _, rfl, rfl, F, _, _, uo, rfl, rfl, .of eF, at_of eij euo, ?_⟩
          refine ⟨_, rfl, _, rfl, a, _, _, ua, rfl, rfl, Same.t sm hA, at_of (Int.zero_add _) eua, _, rfl, _, rfl, b, _, _, ub, rfl, rfl, Same.t sm hB, at_of (Int.zero_add _) eub, ?_⟩
          refine ⟨_, _, ps[i], rs[j], 2000, 2000, rfl, hua.mono sm, hub.mono sm, qa, qb', by decide, fun v3 H3 s4 h3 => ?_⟩
          refine ⟨_, _, _, _, 2000, 2000, rfl, huo.mono s4, h3, qold, qab, by decide, fun v5 H5 s5 h5 => ?_⟩
          have eF5 := s5 _ _ (s4 _ _ eF)
          refine ⟨_, rfl, _, rfl, _, rfl, _, _, rfl, rfl, F, _, _, i + j, rfl, rfl, eF5, by rw [eij]; exact ixN_nat hij, ?_⟩
          have gF : Gr H5 (upd H5 F (.lst (ws.set (i + j) v5))) := gr_mut eF5
          refine ⟨_, _, rfl, same_mut (sm.trans (s4.trans s5)) nF, upd_same, ?_⟩
          rw [List.take_add_one, List.getElem?_eq_getElem hj']
          show Paired _ _ (addAt _ i ps[i] (rs.take j ++ [rs[j]]))
          rw [addAt_snoc, List.length_take, Nat.min_eq_left (by omega), List.getD_eq_getElem?_getD, List.getElem?_eq_getElem hijc]
          refine paired_of ?_ fun t v y e1 e2 => ?_
          · rw [List.length_set, List.length_set, lws, lconv]
          · by_cases ht : i + j = t
            · subst ht
              rw [List.getElem?_set_self hij] at e1
              rw [List.getElem?_set_self hijc] at e2
              cases e1
              cases e2
              exact h5.gr gF
            · rw [List.getElem?_set_ne ht] at e1 e2
              obtain ⟨x, ex, hx⟩ := paired_get hPc e1
              rw [e2] at ex
              cases ex
              exact (hx.mono (s4.trans s5)).gr gF
        · obtain ⟨y4, ws, rfl, sm, eF, hPc⟩ := h
          refine ⟨_, _, ws, rfl, sm, eF, ?_⟩
          rw [show ((us.length : Nat) : Int).toNat = rs.length by omega, List.take_length] at hPc
          rw [List.take_add_one, List.getElem?_eq_getElem hi']
          show Paired _ _ (conv _ 0 (ps.take i ++ [ps[i]]) rs)
          rw [conv_snoc, Nat.zero_add, List.length_take, Nat.min_eq_left (by omega)]
          exact hPc
      · obtain ⟨y3, y4, ws, rfl, sm, eF, hPc⟩ := h
        rw [show ((vs.length : Nat) : Int).toNat = ps.length by omega, List.take_length] at hPc
        exact ⟨_, _, ws, rfl, sm, eF, hPc⟩
    · obtain ⟨y3, y4, ws, rfl, sm, eF, hPc⟩ := hM
      refine ⟨_, rfl, _, _, rfl, ⟨F, ws, rfl, eF, hPc⟩, by rw [conv_len, List.length_replicate]; omega, fun v3 H3 s4 h3 => ?_⟩
      refine q _ _ (sm.trans s4) ?_
      have e : mulQ ps rs = trimQ (conv (List.replicate n 0) 0 ps rs) := by
        unfold mulQ
        rw [if_neg (by rintro (h | h); exact h1 h; exact h2 h), hn]
      rw [e]
      exact h3
end
end Kq

set_option Elab.async false
set_option linter.all false
set_option maxRecDepth 100000
set_option maxHeartbeats 1000000
/-! factors that are drawn -/
namespace Kq
open PySem PySem.Spec PyProof.Rows L2
/-! ### written ratios, tuples and lists of them -/
def MkI (te : TE) (σ : L2.St) (i : Int) : Prop := ∀ H (Q : VK), Q (.int i) H → te σ H Q
def MkP (te : TE) (σ : L2.St) (H : Hp) (R : Hp → V → Prop) : Prop := ∀ H0, Same H H0 → ∀ Q : VK, (∀ v H', Same H0 H' → R H' v → Q v H') → te σ H0 Q
def MkA (ta : TA) (σ : L2.St) (H : Hp) (R : Hp → List V → Prop) : Prop := ∀ H0, Same H H0 → ∀ Q : List V → Hp → Prop, (∀ vs H', Same H0 H' → R H' vs → Q vs H') → ta σ H0 Q
section
variable {K : PySem.W.Frag} {σ : L2.St} {H : Hp}
theorem mi_c {i : Int} : MkI (tC (.int i)) σ i := fun _ _ q => q
theorem mi_neg {te : TE} {i : Int} (h : MkI te σ i) : MkI (tUn (rU fun i => .int (-i)) te) σ (-i) := fun H Q q => h H _ ⟨i, rfl, q⟩
theorem mk_q {t1 t2 : TE} {a b : Int} {q : Rat} (h1 : MkI t1 σ a) (h2 : MkI t2 σ b) (hn : q.num = a) (hd : (q.den : Int) = b) : MkP (tTup (tCons t1 (tCons t2 tNil))) σ H (fun H' v => IsQ K H' v q) := fun H0 _ Q k =>
  h1 H0 _ (h2 H0 _ ⟨by show 2 ≤ sizeLine; decide, fun p hp => k _ _ (same_new hp) ⟨p, rfl, .of (by rw [upd_same, hn, hd])⟩⟩)
theorem ma_nil {R : Hp → V → α → Prop} : MkA tNil σ H (fun H' vs => Paired (R H') vs []) := fun H0 _ Q k => k _ _ (Same.refl _) .nil
theorem ma_cons {R : Hp → V → α → Prop} (mono : ∀ {H H' v x}, Same H H' → R H v x → R H' v x) {te : TE} {ta : TA} {x : α} {xs : List α} (h : MkP te σ H (fun H' v => R H' v x)) (t : MkA ta σ H (fun H' vs => Paired (R H') vs xs)) :
    MkA (tCons te ta) σ H (fun H' vs => Paired (R H') vs (x :: xs)) := fun H0 s0 Q k =>
  h H0 s0 _ fun v H1 s1 r1 => t H1 (s0.trans s1) _ fun vs H2 s2 r2 => k _ _ (s1.trans s2) (.cons (mono s2 r1) r2)
theorem mk_tup {ta : TA} {qs : List Rat} (hl : qs.length ≤ 1000) (h : MkA ta σ H (fun H' vs => Paired (IsQ K H') vs qs)) : MkP (tTup ta) σ H (fun H' v => IsT K (IsQ K H') H' v qs) := fun H0 s0 Q k =>
  h H0 s0 _ fun vs H1 s1 r1 => ⟨by rw [r1.length]; exact Nat.le_of_lt (small1000 hl), fun p hp => k _ _ (s1.trans (same_new hp)) ⟨p, vs, rfl, .of upd_same, paired_mono r1 fun _ _ r => r.mono (same_new hp)⟩⟩
end
theorem mk_lst {σ : L2.St} {H : Hp} {R : Hp → V → α → Prop} {ta : TA} {xs : List α} (hl : xs.length ≤ 1000) (h : MkA ta σ H (fun H' vs => Paired (R H') vs xs)) {Q : List V → Hp → Prop}
    (k : ∀ p vs H', Same H H' → H' p = none → Paired (R H') vs xs → Q [.ref p] (upd H' p (.lst vs))) : tCons (tLst ta) tNil σ H Q :=
  h H (Same.refl _) _ fun vs H1 s1 r1 => ⟨by rw [r1.length]; exact Nat.le_of_lt (small1000 hl), fun p hp => k p vs H1 s1 hp r1⟩
/-- a row as a tuple of ratios -/
abbrev IsF (K : PySem.W.Frag) (H : Hp) (v : V) (f : List Rat) : Prop := IsT K (IsQ K H) H v f
theorem IsF.gr {K : PySem.W.Frag} {H H' : Hp} (e : Gr H H') {v : V} {f : List Rat} (h : IsF K H v f) : IsF K H' v f := by
  obtain ⟨p, vs, rfl, ht, hp⟩ := h
  exact ⟨p, vs, rfl, Gr.t e ht, paired_mono hp fun _ _ r => r.gr e⟩
theorem IsF.mono {K : PySem.W.Frag} {H H' : Hp} (e : Same H H') {v : V} {f : List Rat} (h : IsF K H v f) : IsF K H' v f := IsF.gr (Same.gr e) h
/-! ### the factors -/
inductive RootFac : List Rat → Prop where
  | lin (r : Rat) (h0 : 0 < r) (h1 : r < 1) (hd : r.den ≤ 1000000001) : RootFac [((-r.num : Int) : Rat), ((r.den : Int) : Rat)]
  | a : RootFac [-1, 1, 1]
  | b : RootFac [-1, 0, 2]
  | c : RootFac [-1 / 2, 0, 1, 3]
def sp_L_root_factor (K : PySem.W.Frag) : Sp := fun vs H Q _ => ∃ (c d : Addr) (k : Nat), vs = [.ref d] ∧ IsPen c H d k ∧ k ≤ 90000 ∧ ∀ v f H', RootFac f → IsF K H' v f → But d H H' → IsPen c H' d (k + 4) → Q v H'
section
variable {P : Program} {w : World} {K : PySem.W.Frag} {mg : Str → Option Value} {base : Heap}
theorem paired_mem {R : V → α → Prop} : ∀ {vs : List V} {xs : List α} {v : V}, Paired R vs xs → v ∈ vs → ∃ x, x ∈ xs ∧ R v x
  | _, _, _, .nil, h => by cases h
  | _, _, v, .cons r t, h => by
    rcases List.mem_cons.mp h with rfl | h
    · exact ⟨_, List.mem_cons_self, r⟩
    · obtain ⟨x, hx, hr⟩ := paired_mem t h
      exact ⟨x, List.mem_cons_of_mem _ hx, hr⟩
theorem lit_m1 : ((-1 : Rat)).num = -1 ∧ (((-1 : Rat)).den : Int) = 1 := by decide +kernel
theorem lit_0 : ((0 : Rat)).num = 0 ∧ (((0 : Rat)).den : Int) = 1 := by decide +kernel
theorem lit_1 : ((1 : Rat)).num = 1 ∧ (((1 : Rat)).den : Int) = 1 := by decide +kernel
theorem lit_2 : ((2 : Rat)).num = 2 ∧ (((2 : Rat)).den : Int) = 1 := by decide +kernel
theorem lit_3 : ((3 : Rat)).num = 3 ∧ (((3 : Rat)).den : Int) = 1 := by decide +kernel
theorem three_facs {σ : L2.St} {H : Hp} {m1 o z tw th hf : Rat} (a1 : m1.num = -1 ∧ (m1.den : Int) = 1) (a2 : o.num = 1 ∧ (o.den : Int) = 1) (a3 : z.num = 0 ∧ (z.den : Int) = 1) (a4 : tw.num = 2 ∧ (tw.den : Int) = 1) (a5 : th.num = 3 ∧ (th.den : Int) = 1) (a6 : hf.num = -1 ∧ (hf.den : Int) = 2) :
    MkA (tCons (tTup (tCons (tTup (tCons (tUn (rU fun i => .int (-i)) (tC (.int 1))) (tCons (tC (.int 1)) tNil))) (tCons (tTup (tCons (tC (.int 1)) (tCons (tC (.int 1)) tNil))) (tCons (tTup (tCons (tC (.int 1)) (tCons (tC (.int 1)) tNil))) tNil))))
      (tCons (tTup (tCons (tTup (tCons (tUn (rU fun i => .int (-i)) (tC (.int 1))) (tCons (tC (.int 1)) tNil))) (tCons (tTup (tCons (tC (.int 0)) (tCons (tC (.int 1)) tNil))) (tCons (tTup (tCons (tC (.int 2)) (tCons (tC (.int 1)) tNil))) tNil))))
      (tCons (tTup (tCons (tTup (tCons (tUn (rU fun i => .int (-i)) (tC (.int 1))) (tCons (tC (.int 2)) tNil))) (tCons (tTup (tCons (tC (.int 0)) (tCons (tC (.int 1)) tNil))) (tCons (tTup (tCons (tC (.int 1)) (tCons (tC (.int 1)) tNil))) (tCons (tTup (tCons (tC (.int 3)) (tCons (tC (.int 1)) tNil))) tNil))))) tNil)))
      σ H (fun H' vs => Paired (IsF K H') vs [[m1, o, o], [m1, z, tw], [hf, z, o, th]]) := by
  have m : ∀ {H H' : Hp} {v : V} {q : Rat}, Same H H' → IsQ K H v q → IsQ K H' v q := fun e h => h.mono e
  have mf : ∀ {H H' : Hp} {v : V} {q : List Rat}, Same H H' → IsF K H v q → IsF K H' v q := fun e h => h.mono e
  have one := mk_q (K := K) (σ := σ) (H := H) (t1 := tC (.int 1)) (t2 := tC (.int 1)) mi_c mi_c a2.1 a2.2
  have zero := mk_q (K := K) (σ := σ) (H := H) (t1 := tC (.int 0)) (t2 := tC (.int 1)) mi_c mi_c a3.1 a3.2
  have two := mk_q (K := K) (σ := σ) (H := H) (t1 := tC (.int 2)) (t2 := tC (.int 1)) mi_c mi_c a4.1 a4.2
  have three := mk_q (K := K) (σ := σ) (H := H) (t1 := tC (.int 3)) (t2 := tC (.int 1)) mi_c mi_c a5.1 a5.2
  have mone := mk_q (K := K) (σ := σ) (H := H) (t1 := tUn (rU fun i => .int (-i)) (tC (.int 1))) (t2 := tC (.int 1)) (mi_neg mi_c) mi_c a1.1 a1.2
  have half := mk_q (K := K) (σ := σ) (H := H) (t1 := tUn (rU fun i => .int (-i)) (tC (.int 1))) (t2 := tC (.int 2)) (mi_neg mi_c) mi_c a6.1 a6.2
  refine ma_cons (R := IsF K) mf (x := [m1, o, o]) (mk_tup (Nat.le_of_ble_eq_true rfl) (ma_cons (R := IsQ K) m mone (ma_cons (R := IsQ K) m one (ma_cons (R := IsQ K) m one ma_nil)))) ?_
  refine ma_cons (R := IsF K) mf (x := [m1, z, tw]) (mk_tup (Nat.le_of_ble_eq_true rfl) (ma_cons (R := IsQ K) m mone (ma_cons (R := IsQ K) m zero (ma_cons (R := IsQ K) m two ma_nil)))) ?_
  exact ma_cons (R := IsF K) mf (x := [hf, z, o, th]) (mk_tup (Nat.le_of_ble_eq_true rfl) (ma_cons (R := IsQ K) m half (ma_cons (R := IsQ K) m zero (ma_cons (R := IsQ K) m one (ma_cons (R := IsQ K) m three ma_nil))))) ma_nil
theorem lit_half : ((-1 / 2 : Rat)).num = -1 ∧ (((-1 / 2 : Rat)).den : Int) = 2 := by decide +kernel
theorem h_L_root_factor (T : Txt K mg) {k : Nat} (G_L_pick : Has P w K mg base "_law_pick" ["_law_pen_here", "_law_some"] k sp_L_pick) (G_L_draw : Has P w K mg base "_law_draw" ["_law_pen_here", "_law_many"] k sp_L_draw) (G_L_q : Has P w K mg base "_law_q" ["_law_top", "_law_bottom"] k sp_L_q) : Has P w K mg base "_law_root_factor" ["_law_pen_here"] (k + 1) (sp_L_root_factor K) := by
  refine has_of T.d_L_root_factor sc_L_root_factor (fun vs H Q E h => ?_) (fun f cdv A outer s H vs Q E hr h => ?_)
  · obtain ⟨c, d, n, rfl, _⟩ := h
    rfl
  · obtain ⟨c, d, n, rfl, hpen, hn, q⟩ := h
    refine ⟨_, (Evl.pss_cut (ps_if (pt_cmpR op_eq (pe_callH G_L_draw hr (by rfl) (pa_cons (pv 0) (pa_cons pe_int pa_nil))) pe_int (nomark _)) (pss_cons (ps_set (i := 1) sc_L_root_factor.nd rfl (.inl rfl) (pe_op op_add pe_int (pe_callH G_L_draw hr (by rfl) (pa_cons (pv 0) (pa_cons (pe_callH G_L_pick hr (by rfl) (pa_cons (pv 0) (pa_cons (pe_lst (pa_cons pe_int (pa_cons pe_int (pa_cons pe_int (pa_cons (pe_op op_pow pe_int pe_int) pa_nil))))) pa_nil))) pa_nil))))) (pss_cons (ps_set (i := 2) sc_L_root_factor.nd rfl (.inl rfl) (pe_callH G_L_q hr (by rfl) (pa_cons (pe_op op_add pe_int (pe_callH G_L_draw hr (by rfl) (pa_cons (pv 0) (pa_cons (pe_op op_sub (pv 1) pe_int) pa_nil)))) (pa_cons (pv 1) pa_nil)))) (pss_one (ps_ret (pe_tup (pa_cons (pe_tup (pa_cons (pe_un un_neg (pe_ix ix_tup (pv 2) pe_int (fun _ _ => rfl))) (pa_cons pe_int pa_nil))) (pa_cons (pe_tup (pa_cons (pe_ix ix_tup (pv 2) pe_int (fun _ _ => rfl)) (pa_cons pe_int pa_nil))) pa_nil))))))) pss_nil) (pss_one (ps_ret (pe_callH G_L_pick hr (by rfl) (pa_cons (pv 0) (pa_cons (pe_lst (pa_cons (pe_tup (pa_cons (pe_tup (pa_cons (pe_un un_neg pe_int) (pa_cons pe_int pa_nil))) (pa_cons (pe_tup (pa_cons pe_int (pa_cons pe_int pa_nil))) (pa_cons (pe_tup (pa_cons pe_int (pa_cons pe_int pa_nil))) pa_nil)))) (pa_cons (pe_tup (pa_cons (pe_tup (pa_cons (pe_un un_neg pe_int) (pa_cons pe_int pa_nil))) (pa_cons (pe_tup (pa_cons pe_int (pa_cons pe_int pa_nil))) (pa_cons (pe_tup (pa_cons pe_int (pa_cons pe_int pa_nil))) pa_nil)))) (pa_cons (pe_tup (pa_cons (pe_tup (pa_cons (pe_un un_neg pe_int) (pa_cons pe_int pa_nil))) (pa_cons (pe_tup (pa_cons pe_int (pa_cons pe_int pa_nil))) (pa_cons (pe_tup (pa_cons pe_int (pa_cons pe_int pa_nil))) (pa_cons (pe_tup (pa_cons pe_int (pa_cons pe_int pa_nil))) pa_nil))))) pa_nil)))) pa_nil)))))), ?_⟩
    refine ⟨fun σ H' => (∃ y1 y2, σ = [some (.ref d), y1, y2]) ∧ But d H H' ∧ IsPen c H' d (n + 1), ?_, fun σ H' hM => ?_⟩
    · refine ⟨_, rfl, c, d, 2, n, rfl, hpen, by decide, by omega, fun x H1 x0 x1 b1 hp1 => ?_⟩
      refine ⟨rfl, _, rfl, ?_⟩
      by_cases h0 : x = 0
      · refine ifT (decide_eq_true (by rw [h0])) ?_
        -- bottom
        refine ⟨_, rfl, _, rfl, _, _, rfl, rfl, ⟨by decide, by decide, by decide⟩, by show 4 ≤ sizeLine; decide, fun l hl => ?_⟩
        have s1 := same_new (o := .lst [.int 2, .int 9, .int 97, .int ((10 : Int) ^ (9 : Int).toNat)]) hl
        refine ⟨c, d, l, _, n + 1, rfl, hp1.same s1, upd_same, by simp, by omega, fun v H2 hv b2 hp2 => ?_⟩
        have b12 := b1.trans ((Same.but d s1).trans b2)
        obtain ⟨m, rfl, m0, m1⟩ : ∃ m : Int, v = .int m ∧ 0 < m ∧ m ≤ 1000000000 := by
          have p9 : (10 : Int) ^ (9 : Int).toNat = 1000000000 := by decide
          dsimp only at hv
          rw [p9] at hv
          simp only [List.mem_cons, List.not_mem_nil, or_false] at hv
          rcases hv with rfl | rfl | rfl | rfl
          · exact ⟨2, rfl, by decide, by decide⟩
          · exact ⟨9, rfl, by decide, by decide⟩
          · exact ⟨97, rfl, by decide, by decide⟩
          · exact ⟨1000000000, rfl, by decide, by decide⟩
        refine ⟨c, d, m, n + 2, rfl, hp2, m0, by omega, fun x2 H3 y0 y1 b3 hp3 => ?_⟩
        have b13 := b12.trans b3
        refine ⟨_, _, rfl, rfl, ?_⟩
        -- root
        refine ⟨_, rfl, _, rfl, _, _, rfl, rfl, c, d, 2 + x2 - 1, n + 3, rfl, hp3, by omega, by omega, fun x3 H4 z0 z1 b4 hp4 => ?_⟩
        have b14 := b13.trans b4
        refine ⟨_, _, rfl, rfl, _, rfl, 1 + x3, 2 + x2, 31, rfl, by omega, by omega, by decide, fun p H5 s5 hp5 => ?_⟩
        have hb0 : 0 < 2 + x2 := by omega
        have hr0 : 0 < Rat.divInt (1 + x3) (2 + x2) := by
          rw [Rat.divInt_eq_div, Rat.lt_div_iff (Rat.intCast_pos.mpr hb0)]
          rw [Rat.zero_mul]
          exact Rat.intCast_pos.mpr (by omega)
        have hr1 : Rat.divInt (1 + x3) (2 + x2) < 1 := by
          rw [Rat.divInt_eq_div, Rat.div_lt_iff (Rat.intCast_pos.mpr hb0), Rat.one_mul]
          exact Rat.intCast_lt_intCast.mpr (by omega)
        have hrd : (Rat.divInt (1 + x3) (2 + x2)).den ≤ 1000000001 := by
          have h1 := den_low (a := 1 + x3) hb0
          have h2 := Int.natAbs_ediv_le_natAbs (2 + x2) ((Int.gcd (1 + x3) (2 + x2) : Nat) : Int)
          rw [h1] at h2
          omega
        generalize Rat.divInt (1 + x3) (2 + x2) = r at hp5 hr0 hr1 hrd
        have ht5 : SqT K H5 p [.int r.num, .int (r.den : Int)] := .of hp5
        refine ⟨_, rfl, p, _, 0, _, rfl, rfl, ht5, atI_nat (j := 0) rfl, _, rfl, by show 2 ≤ sizeLine; decide, fun p6 hp6 => ?_⟩
        have s6 := same_new (o := .tup [.int (-r.num), .int 1]) hp6
        refine ⟨_, rfl, p, _, 1, _, rfl, rfl, Same.t s6 ht5, atI_nat (j := 1) rfl, by show 2 ≤ sizeLine; decide, fun p7 hp7 => ?_⟩
        have s7 := same_new (o := .tup [.int (r.den : Int), .int 1]) hp7
        refine ⟨by show 2 ≤ sizeLine; decide, fun p8 hp8 => ?_⟩
        have s8 := same_new (o := .tup [.ref p6, .ref p7]) hp8
        have s58 := s5.trans (s6.trans (s7.trans s8))
        refine q _ _ _ (.lin r hr0 hr1 hrd) ⟨p8, _, rfl, .of upd_same, .cons ⟨p6, rfl, .of ((s7.trans s8) _ _ upd_same)⟩ (.cons ⟨p7, rfl, .of (s8 _ _ upd_same)⟩ .nil)⟩ (b14.trans (Same.but d s58)) ((hp4.same s58).more (by omega))
      · exact ifF (decide_eq_false (fun z => h0 (V.int.inj z))) ⟨⟨_, _, rfl⟩, b1, hp1⟩
    · obtain ⟨⟨y1, y2, rfl⟩, b1, hp1⟩ := hM
      refine ⟨_, rfl, ?_⟩
      refine mk_lst (R := IsF K) (Nat.le_of_ble_eq_true rfl) (three_facs (m1 := -1) (o := 1) (z := 0) (tw := 2) (th := 3) (hf := -1 / 2) lit_m1 lit_1 lit_0 lit_2 lit_3 lit_half) fun l vs H2 s2 hl hvs => ?_
      have lvs := hvs.length
      have s3 := same_new (o := .lst vs) hl
      have b3 := b1.trans (Same.but d (s2.trans s3))
      refine ⟨c, d, l, vs, n + 1, rfl, (hp1.same s2).same s3, upd_same, (fun e => by rw [e] at lvs; cases lvs), by omega, fun v H4 hv b4 hp4 => ?_⟩
      obtain ⟨f, hf, hr'⟩ := paired_mem hvs hv
      have hF : RootFac f := by
        simp only [List.mem_cons, List.not_mem_nil, or_false] at hf
        rcases hf with rfl | rfl | rfl
        · exact .a
        · exact .b
        · exact .c
      have g4 : Gr _ H4 := ((hp1.same s2).same s3).gr b4
      exact q v f _ hF ((hr'.mono s3).gr g4) (b3.trans b4) (hp4.more (by omega))
end
end Kq

set_option Elab.async false
set_option linter.all false
set_option maxRecDepth 100000
set_option maxHeartbeats 1000000
/-! the law's planted polynomials -/
namespace Kq
open PySem PySem.Spec PyProof.Rows L2
/-! ### rows as data -/
def fD (f : List Rat) : PyData := .tuple (f.map qD)
theorem qDs_lay : ∀ f : List Rat, PyData.canLayAll0 (f.map qD) = true
  | [] => by simp [PyData.canLayAll0]
  | q :: f => by simp [PyData.canLayAll0, qD_lay q, qDs_lay f]
theorem qDs_depth : ∀ f : List Rat, PyData.depthAll (f.map qD) ≤ 1
  | [] => by simp [PyData.depthAll]
  | q :: f => by
    have h1 := qDs_depth f
    have h2 := qD_depth q
    simp only [List.map_cons, PyData.depthAll]
    omega
theorem fD_lay (f : List Rat) : (fD f).canLay0 = true := by
  simp only [fD, PyData.canLay0]
  exact qDs_lay f
theorem fD_depth (f : List Rat) : (fD f).depth ≤ 2 := by
  have h := qDs_depth f
  simp only [fD, PyData.depth]
  omega
theorem fD_shaped (f : List Rat) : SeqAt.shaped (fD f) = true := by
  have h := fD_depth f
  show ((fD f).canLay0 && decide ((fD f).depth ≤ 64)) = true
  rw [Bool.and_eq_true]
  exact ⟨fD_lay f, decide_eq_true (by omega)⟩
theorem fDs_lay : ∀ fs : List (List Rat), PyData.canLayAll0 (fs.map fD) = true
  | [] => by simp [PyData.canLayAll0]
  | q :: f => by simp [PyData.canLayAll0, fD_lay q, fDs_lay f]
theorem fDs_depth : ∀ fs : List (List Rat), PyData.depthAll (fs.map fD) ≤ 2
  | [] => by simp [PyData.depthAll]
  | q :: f => by
    have h1 := fDs_depth f
    have h2 := fD_depth q
    simp only [List.map_cons, PyData.depthAll]
    omega
theorem fDs_shaped (fs : List (List Rat)) : SeqAt.shaped (.list (fs.map fD)) = true := by
  have h1 := fDs_depth fs
  have h2 : PyData.depth (.list (fs.map fD)) ≤ 64 := by
    simp only [PyData.depth]
    omega
  show (PyData.canLay0 (.list (fs.map fD)) && decide (PyData.depth (.list (fs.map fD)) ≤ 64)) = true
  rw [Bool.and_eq_true]
  exact ⟨by simp only [PyData.canLay0]; exact fDs_lay fs, decide_eq_true h2⟩
theorem qDs_eqv : ∀ f g : List Rat, PyData.eqvAll (f.map qD) (g.map qD) = decide (f = g)
  | [], [] => by simp [PyData.eqvAll]
  | [], _ :: _ => by simp [PyData.eqvAll]
  | _ :: _, [] => by simp [PyData.eqvAll]
  | a :: f, b :: g => by
    simp only [List.map_cons, PyData.eqvAll]
    rw [qD_eqv, qDs_eqv f g]
    simp
theorem fD_eqv (f g : List Rat) : PyData.eqv (fD f) (fD g) = decide (f = g) := by
  simp only [fD, PyData.eqv]
  exact qDs_eqv f g
theorem dpAll_q {K : PySem.W.Frag} {H : Hp} : ∀ {vs : List V} {qs : List Rat}, Paired (IsQ K H) vs qs → DpAll K H vs (qs.map qD)
  | _, _, .nil => .nil
  | _, _, .cons r t => .cons (dp_of r) (dpAll_q t)
theorem dp_f {K : PySem.W.Frag} {H : Hp} {v : V} {f : List Rat} (h : IsF K H v f) : Dp K H v (fD f) := by
  obtain ⟨p, vs, rfl, ht, hp⟩ := h
  exact .tup ht (dpAll_q hp)
theorem dpAll_f {K : PySem.W.Frag} {H : Hp} : ∀ {vs : List V} {fs : List (List Rat)}, Paired (IsF K H) vs fs → DpAll K H vs (fs.map fD)
  | _, _, .nil => .nil
  | _, _, .cons r t => .cons (dp_f r) (dpAll_f t)
theorem any_f (fs : List (List Rat)) (f : List Rat) : ((fs.map fD).any fun z => PyData.eqv z (fD f)) = decide (f ∈ fs) := by
  rw [List.any_map]
  induction fs with
  | nil => simp
  | cons g gs ih =>
    rw [List.any_cons, ih]
    simp only [Function.comp_apply, fD_eqv]
    by_cases h : g = f
    · subst h; simp
    · rw [decide_eq_false h]
      have : (f ∈ g :: gs) ↔ f ∈ gs := by
        rw [List.mem_cons]
        exact ⟨fun z => z.elim (fun e => absurd e.symm h) id, .inr⟩
      simp [this]
/-! ### plain -/
inductive OthFac : List Rat → Prop where
  | p : OthFac [0, 1]
  | q : OthFac [1, -1]
  | r : OthFac [1, 0, 1]
  | s : OthFac [1, -2, 3]
def mulN (row f : List Rat) : Nat → List Rat
  | 0 => row
  | n + 1 => mulQ (mulN row f n) f
def rowFs (r0 : List Rat) (fs : List (List Rat × Nat)) : List Rat := fs.foldl (fun r p => mulN r p.1 p.2) r0
def rowOs (r : List Rat) (os : List (List Rat)) : List Rat := os.foldl mulQ r
def LenOk : List Rat → List (List Rat × Nat) → Prop
  | _, [] => True
  | r, p :: fs => r.length + p.2 * (p.1.length - 1) < 10 ∧ LenOk (mulN r p.1 p.2) fs
theorem lenOk_snoc : ∀ {fs : List (List Rat × Nat)} {r f : List Rat} {t : Nat}, LenOk r fs → (rowFs r fs).length + t * (f.length - 1) < 10 → LenOk r (fs ++ [(f, t)])
  | [], _, _, _, _, h => ⟨h, trivial⟩
  | p :: fs, r, f, t, h, h2 => ⟨h.1, lenOk_snoc h.2 h2⟩
theorem rowFs_snoc (r : List Rat) (fs : List (List Rat × Nat)) (f : List Rat) (t : Nat) : rowFs r (fs ++ [(f, t)]) = mulN (rowFs r fs) f t := by
  unfold rowFs
  rw [List.foldl_append]
  rfl
def crossedOf (fs : List (List Rat × Nat)) : List (List Rat) := (fs.filter fun p => decide (p.2 ≠ 2)).map (·.1)
structure Plan (row : List Rat) (s c : Int) (fs : List (List Rat × Nat)) (os : List (List Rat)) : Prop where
  sign : s = 1 ∨ s = -1
  c0 : 1 ≤ c
  c9 : c ≤ 9
  few : fs.length ≤ 3
  fac : ∀ p ∈ fs, RootFac p.1 ∧ 1 ≤ p.2 ∧ p.2 ≤ 3
  nd : (fs.map (·.1)).Nodup
  len : LenOk [Rat.divInt s c] fs
  two : os.length ≤ 2
  oth : ∀ o ∈ os, OthFac o
  row_eq : row = rowOs (rowFs [Rat.divInt s c] fs) os
/-- how large a row is behind j products -/
def RowB (j : Nat) (row : List Rat) : Prop := ∃ D M : Nat, 0 < D ∧ RBd D M row ∧ D ≤ 9 * 2 ^ j ∧ M ≤ 2 ^ (35 * j)
def FacB (f : List Rat) : Prop := f.length ≤ 4 ∧ ∃ E N : Nat, 0 < E ∧ E ≤ 2 ∧ N ≤ 2 ^ 30 ∧ RBd E N f
theorem bq_int (i : Int) {E N : Nat} (hE : 0 < E) (h : i.natAbs * E ≤ N) : BQ E N (i : Rat) := by
  refine ⟨i * E, ?_, by rw [Int.natAbs_mul, Int.natAbs_natCast]; exact h⟩
  have h1 := natCast_ne hE
  rw [Rat.intCast_mul]
  have e : (((E : Nat) : Int) : Rat) = (E : Rat) := rfl
  rw [e]
  grind
theorem rootFac_b {f : List Rat} (h : RootFac f) : FacB f := by
  cases h with
  | lin r h0 h1 hd =>
    refine ⟨by show 2 ≤ 4; decide, 1, 2 ^ 30, by decide, by decide, Nat.le_refl _, fun q hq => ?_⟩
    have hn : r.num < (r.den : Int) := by
      have := (Rat.lt_iff r 1).mp h1
      simpa using this
    have hn0 : 0 ≤ r.num := Rat.num_nonneg.mpr (Rat.le_of_lt h0)
    have hd' : r.den ≤ 2 ^ 30 := Nat.le_trans hd (by decide)
    simp only [List.mem_cons, List.not_mem_nil, or_false] at hq
    rcases hq with rfl | rfl
    · exact bq_int _ (by decide) (by omega)
    · exact bq_int _ (by decide) (by omega)
  | a =>
    refine ⟨by show 3 ≤ 4; decide, 1, 2 ^ 30, by decide, by decide, Nat.le_refl _, fun q hq => ?_⟩
    simp only [List.mem_cons, List.not_mem_nil, or_false] at hq
    rcases hq with rfl | rfl | rfl
    · exact bq_int (-1) (by decide) (by decide)
    · exact bq_int 1 (by decide) (by decide)
    · exact bq_int 1 (by decide) (by decide)
  | b =>
    refine ⟨by show 3 ≤ 4; decide, 1, 2 ^ 30, by decide, by decide, Nat.le_refl _, fun q hq => ?_⟩
    simp only [List.mem_cons, List.not_mem_nil, or_false] at hq
    rcases hq with rfl | rfl | rfl
    · exact bq_int (-1) (by decide) (by decide)
    · exact bq_int 0 (by decide) (by decide)
    · exact bq_int 2 (by decide) (by decide)
  | c =>
    refine ⟨by show 4 ≤ 4; decide, 2, 2 ^ 30, by decide, by decide, Nat.le_refl _, fun q hq => ?_⟩
    simp only [List.mem_cons, List.not_mem_nil, or_false] at hq
    rcases hq with rfl | rfl | rfl | rfl
    · exact ⟨-1, by grind, by decide⟩
    · exact bq_int 0 (by decide) (by decide)
    · exact bq_int 1 (by decide) (by decide)
    · exact bq_int 3 (by decide) (by decide)
theorem othFac_b {f : List Rat} (h : OthFac f) : FacB f := by
  cases h with
  | p =>
    refine ⟨by show 2 ≤ 4; decide, 1, 2 ^ 30, by decide, by decide, Nat.le_refl _, fun q hq => ?_⟩
    simp only [List.mem_cons, List.not_mem_nil, or_false] at hq
    rcases hq with rfl | rfl
    · exact bq_int 0 (by decide) (by decide)
    · exact bq_int 1 (by decide) (by decide)
  | q =>
    refine ⟨by show 2 ≤ 4; decide, 1, 2 ^ 30, by decide, by decide, Nat.le_refl _, fun q hq => ?_⟩
    simp only [List.mem_cons, List.not_mem_nil, or_false] at hq
    rcases hq with rfl | rfl
    · exact bq_int 1 (by decide) (by decide)
    · exact bq_int (-1) (by decide) (by decide)
  | r =>
    refine ⟨by show 3 ≤ 4; decide, 1, 2 ^ 30, by decide, by decide, Nat.le_refl _, fun q hq => ?_⟩
    simp only [List.mem_cons, List.not_mem_nil, or_false] at hq
    rcases hq with rfl | rfl | rfl
    · exact bq_int 1 (by decide) (by decide)
    · exact bq_int 0 (by decide) (by decide)
    · exact bq_int 1 (by decide) (by decide)
  | s =>
    refine ⟨by show 3 ≤ 4; decide, 1, 2 ^ 30, by decide, by decide, Nat.le_refl _, fun q hq => ?_⟩
    simp only [List.mem_cons, List.not_mem_nil, or_false] at hq
    rcases hq with rfl | rfl | rfl
    · exact bq_int 1 (by decide) (by decide)
    · exact bq_int (-2) (by decide) (by decide)
    · exact bq_int 3 (by decide) (by decide)
theorem mulQ_len (ps rs : List Rat) : (mulQ ps rs).length ≤ ps.length + (rs.length - 1) := by
  unfold mulQ
  split
  · exact Nat.zero_le _
  · rename_i h
    refine Nat.le_trans (trimQ_len _) ?_
    rw [conv_len, List.length_replicate]
    have : rs ≠ [] := fun e => h (.inr e)
    have := List.length_pos_iff.mpr this
    omega
theorem rowB_mul {j : Nat} {row f : List Rat} (hj : j ≤ 20) (hl : row.length ≤ 13) (h : RowB j row) (hf : FacB f) : MulOk row f ∧ RowB (j + 1) (mulQ row f) := by
  obtain ⟨D, M, hD, hR, hd, hm⟩ := h
  obtain ⟨lf, E, N, hE, he, hn, hF⟩ := hf
  have pj : 2 ^ j ≤ 2 ^ 20 := Nat.pow_le_pow_right (by decide) hj
  have pm : M ≤ 2 ^ 700 := Nat.le_trans hm (Nat.pow_le_pow_right (by decide) (by omega))
  have pd : D ≤ 2 ^ 24 := by
    have : (9 : Nat) * 2 ^ 20 ≤ 2 ^ 24 := by decide
    omega
  have c1 : (2 : Nat) ^ 24 < 2 ^ 2000 := Nat.pow_lt_pow_right (by decide) (by decide)
  have c2 : (2 : Nat) < 2 ^ 2000 := Nat.lt_of_lt_of_le (show 2 < 2 ^ 24 by decide) (Nat.le_of_lt c1)
  have c3 : (2 : Nat) ^ 700 < 2 ^ 2000 := Nat.pow_lt_pow_right (by decide) (by decide)
  have c4 : (2 : Nat) ^ 30 < 2 ^ 2000 := Nat.pow_lt_pow_right (by decide) (by decide)
  have c5 : (2 : Nat) ^ 25 < 2 ^ 2000 := Nat.pow_lt_pow_right (by decide) (by decide)
  have hmn : M * N ≤ 2 ^ (35 * j) * 2 ^ 30 := Nat.mul_le_mul hm hn
  have hlm : row.length * (M * N) ≤ 2 ^ 4 * (2 ^ (35 * j) * 2 ^ 30) := Nat.mul_le_mul (Nat.le_trans hl (by decide)) hmn
  have hlm2 : (row.length + 1) * (M * N) ≤ 2 ^ 4 * (2 ^ (35 * j) * 2 ^ 30) := Nat.mul_le_mul (Nat.le_trans (Nat.succ_le_succ hl) (by decide)) hmn
  have e1 : (2 : Nat) ^ 4 * (2 ^ (35 * j) * 2 ^ 30) = 2 ^ (35 * j + 34) := by
    rw [← Nat.pow_add, ← Nat.pow_add]
    congr 1
    omega
  refine ⟨⟨by omega, by omega, D, E, M, N, hD, hE, hR, hF, by omega, by omega, Nat.lt_of_le_of_lt pm c3, Nat.lt_of_le_of_lt hn c4, ?_, ?_⟩, ⟨D * E, _, Nat.mul_pos hD hE, mulQ_bd hD hE hR hF, ?_, ?_⟩⟩
  · have : D * E ≤ 2 ^ 24 * 2 := Nat.mul_le_mul pd he
    have e : (2 : Nat) ^ 24 * 2 = 2 ^ 25 := rfl
    omega
  · rw [e1] at hlm2
    exact Nat.lt_of_le_of_lt hlm2 (Nat.pow_lt_pow_right (by decide) (by omega))
  · have : D * E ≤ 9 * 2 ^ j * 2 := Nat.mul_le_mul hd he
    rw [Nat.pow_succ]
    omega
  · rw [e1] at hlm
    refine Nat.le_trans hlm (Nat.pow_le_pow_right (by decide) ?_)
    omega
end Kq

set_option Elab.async false
set_option linter.all false
set_option maxRecDepth 100000
set_option maxHeartbeats 1000000
/-! the law's planted polynomials: the walk -/
namespace Kq
open PySem PySem.Spec PyProof.Rows L2
theorem but_mut {d : Addr} {H H' : Hp} {p : Addr} {o : HO} (e : But d H H') (h : H p = none) : But d H (upd H' p o) := fun b x n ha => by
  rw [upd_ne (ne_of_none ha h)]
  exact e b x n ha
theorem pairedF_gr {K : PySem.W.Frag} {H H' : Hp} (e : Gr H H') {vs : List V} {fs : List (List Rat)} (h : Paired (IsF K H) vs fs) : Paired (IsF K H') vs fs := paired_mono h fun _ _ r => IsF.gr e r
theorem IsPen.mut {c : Addr} {H : Hp} {d p : Addr} {k : Nat} {o : HO} (h : IsPen c H d k) (h1 : p ≠ d) (h2 : p ≠ c) : IsPen c (upd H p o) d k := by
  obtain ⟨cells, a, dg, n, f, e1, e2, r⟩ := h
  exact ⟨cells, a, dg, n, f, by rw [upd_ne h1.symm]; exact e1, by rw [upd_ne h2.symm]; exact e2, r⟩
/-! ### tuples of any things, at a return -/
section
variable {K : PySem.W.Frag} {σ : L2.St} {H : Hp}
theorem mk_var {i : Nat} {v : V} {R : Hp → V → Prop} (h : σ[i]? = some (some v)) (r : ∀ H', Same H H' → R H' v) : MkP (tVar i) σ H R := fun H0 s0 Q k => ⟨v, h, k _ _ (Same.refl _) (r _ s0)⟩
theorem ma_nil0 : MkA tNil σ H (fun _ vs => vs = []) := fun H0 _ Q k => k _ _ (Same.refl _) rfl
theorem ma_cons0 {R : Hp → V → Prop} {S : Hp → List V → Prop} (mono : ∀ {H H' v}, Same H H' → R H v → R H' v) {te : TE} {ta : TA} (h : MkP te σ H R) (t : MkA ta σ H S) : MkA (tCons te ta) σ H (fun H' vs => ∃ v ws, vs = v :: ws ∧ R H' v ∧ S H' ws) := fun H0 s0 Q k =>
  h H0 s0 _ fun v H1 s1 r1 => t H1 (s0.trans s1) _ fun vs H2 s2 r2 => k _ _ (s1.trans s2) ⟨v, vs, rfl, mono s2 r1, r2⟩
theorem ret_tup {ta : TA} {R : Hp → List V → Prop} {D : Ends} (h : MkA ta σ H R) (hl : ∀ H' vs, R H' vs → vs.length ≤ 1000) (k : ∀ p vs H', Same H H' → R H' vs → H' p = none → D.rt (.ref p) (upd H' p (.tup vs))) : tRet (tTup ta) D σ H :=
  h H (Same.refl _) _ fun vs H1 s1 r1 => ⟨Nat.le_of_lt (small1000 (hl H1 vs r1)), fun p hp => k p vs H1 s1 r1 hp⟩
theorem mk_lst0 {R : Hp → V → α → Prop} {ta : TA} {xs : List α} (hl : xs.length ≤ 1000) (h : MkA ta σ H (fun H' vs => Paired (R H') vs xs)) {D : Ends} {i : Nat}
    (k : ∀ p vs H', Same H H' → H' p = none → Paired (R H') vs xs → D.nx (σ.set i (some (.ref p))) (upd H' p (.lst vs))) : tAsg (tLst ta) (gName i) D σ H :=
  h H (Same.refl _) _ fun vs H1 s1 r1 => ⟨by rw [r1.length]; exact Nat.le_of_lt (small1000 hl), fun p hp => k p vs H1 s1 hp r1⟩
/-- crossed == [] and sign == t -/
theorem mk_none {C : Addr} {cs : List V} {fs : List (List Rat)} {s t : Int} {te : TE} {i j : Nat} (h1 : σ[i]? = some (some (.ref C))) (h2 : σ[j]? = some (some (.int s))) (ht : MkI te σ t) (hC : H C = some (.lst cs)) (hP : Paired (IsF K H) cs fs) :
    MkP (tAndV (tOp (rEqD K) (tVar i) (tLst tNil)) (tOp rEq (tVar j) te)) σ H (fun _ v => v = .bl (decide (fs = [] ∧ s = t))) := fun H0 s0 Q k => by
  refine ⟨_, h1, Nat.zero_le _, fun z hz => ?_⟩
  have s1 := same_new (o := .lst []) hz
  have dC : Dp K (upd H0 z (.lst [])) (.ref C) (.list (fs.map fD)) := .lst (.of (s1 _ _ (s0 _ _ hC))) (dpAll_f (pairedF_gr (Same.gr (s0.trans s1)) hP))
  refine ⟨_, .list ([].map fD), dC, .lst (.of upd_same) .nil, fDs_shaped _, fDs_shaped _, _, rfl, ?_⟩
  have e : PyData.eqv (.list (fs.map fD)) (.list ([].map fD)) = decide (fs = []) := by
    simp only [PyData.eqv]
    cases fs with
    | nil => simp [PyData.eqvAll]
    | cons f fs => simp [PyData.eqvAll]
  rw [e]
  by_cases hf : fs = []
  · refine ifT (decide_eq_true hf) ?_
    refine ⟨_, h2, ht _ _ ⟨rfl, ?_⟩⟩
    have e2 : decide (V.int s = V.int t) = decide (fs = [] ∧ s = t) := decide_eq_decide.mpr ⟨fun z => ⟨hf, V.int.inj z⟩, fun z => by rw [z.2]⟩
    rw [e2]
    exact k _ _ s1 rfl
  · refine ifF (decide_eq_false hf) ?_
    have := k (.bl (decide (fs = [] ∧ s = t))) _ s1 rfl
    rw [decide_eq_false (fun z => hf z.1)] at this
    exact this
theorem four_facs {m1 o z tw th : Rat} (a1 : m1.num = -1 ∧ (m1.den : Int) = 1) (a2 : o.num = 1 ∧ (o.den : Int) = 1) (a3 : z.num = 0 ∧ (z.den : Int) = 1) (a4 : tw.num = -2 ∧ (tw.den : Int) = 1) (a5 : th.num = 3 ∧ (th.den : Int) = 1) :
    MkA (tCons (tTup (tCons (tTup (tCons (tC (.int 0)) (tCons (tC (.int 1)) tNil))) (tCons (tTup (tCons (tC (.int 1)) (tCons (tC (.int 1)) tNil))) tNil)))
      (tCons (tTup (tCons (tTup (tCons (tC (.int 1)) (tCons (tC (.int 1)) tNil))) (tCons (tTup (tCons (tUn (rU fun i => .int (-i)) (tC (.int 1))) (tCons (tC (.int 1)) tNil))) tNil)))
      (tCons (tTup (tCons (tTup (tCons (tC (.int 1)) (tCons (tC (.int 1)) tNil))) (tCons (tTup (tCons (tC (.int 0)) (tCons (tC (.int 1)) tNil))) (tCons (tTup (tCons (tC (.int 1)) (tCons (tC (.int 1)) tNil))) tNil))))
      (tCons (tTup (tCons (tTup (tCons (tC (.int 1)) (tCons (tC (.int 1)) tNil))) (tCons (tTup (tCons (tUn (rU fun i => .int (-i)) (tC (.int 2))) (tCons (tC (.int 1)) tNil))) (tCons (tTup (tCons (tC (.int 3)) (tCons (tC (.int 1)) tNil))) tNil)))) tNil))))
      σ H (fun H' vs => Paired (IsF K H') vs [[z, o], [o, m1], [o, z, o], [o, tw, th]]) := by
  have m : ∀ {H H' : Hp} {v : V} {q : Rat}, Same H H' → IsQ K H v q → IsQ K H' v q := fun e h => h.mono e
  have mf : ∀ {H H' : Hp} {v : V} {q : List Rat}, Same H H' → IsF K H v q → IsF K H' v q := fun e h => h.mono e
  have one := mk_q (K := K) (σ := σ) (H := H) (t1 := tC (.int 1)) (t2 := tC (.int 1)) mi_c mi_c a2.1 a2.2
  have zero := mk_q (K := K) (σ := σ) (H := H) (t1 := tC (.int 0)) (t2 := tC (.int 1)) mi_c mi_c a3.1 a3.2
  have mtwo := mk_q (K := K) (σ := σ) (H := H) (t1 := tUn (rU fun i => .int (-i)) (tC (.int 2))) (t2 := tC (.int 1)) (mi_neg mi_c) mi_c a4.1 a4.2
  have three := mk_q (K := K) (σ := σ) (H := H) (t1 := tC (.int 3)) (t2 := tC (.int 1)) mi_c mi_c a5.1 a5.2
  have mone := mk_q (K := K) (σ := σ) (H := H) (t1 := tUn (rU fun i => .int (-i)) (tC (.int 1))) (t2 := tC (.int 1)) (mi_neg mi_c) mi_c a1.1 a1.2
  refine ma_cons (R := IsF K) mf (x := [z, o]) (mk_tup (Nat.le_of_ble_eq_true rfl) (ma_cons (R := IsQ K) m zero (ma_cons (R := IsQ K) m one ma_nil))) ?_
  refine ma_cons (R := IsF K) mf (x := [o, m1]) (mk_tup (Nat.le_of_ble_eq_true rfl) (ma_cons (R := IsQ K) m one (ma_cons (R := IsQ K) m mone ma_nil))) ?_
  refine ma_cons (R := IsF K) mf (x := [o, z, o]) (mk_tup (Nat.le_of_ble_eq_true rfl) (ma_cons (R := IsQ K) m one (ma_cons (R := IsQ K) m zero (ma_cons (R := IsQ K) m one ma_nil)))) ?_
  exact ma_cons (R := IsF K) mf (x := [o, tw, th]) (mk_tup (Nat.le_of_ble_eq_true rfl) (ma_cons (R := IsQ K) m one (ma_cons (R := IsQ K) m mtwo (ma_cons (R := IsQ K) m three ma_nil)))) ma_nil
end
theorem lit_m2 : ((-2 : Rat)).num = -2 ∧ (((-2 : Rat)).den : Int) = 1 := by decide +kernel
def sp_L_planted (K : PySem.W.Frag) : Sp := fun vs H Q _ => ∃ (c d : Addr) (k : Nat), vs = [.ref d] ∧ IsPen c H d k ∧ k ≤ 80000 ∧ ∀ (p : Addr) (rv : V) (row : List Rat) (s co : Int) (fs : List (List Rat × Nat)) (os : List (List Rat)) (H' : Hp), Plan row s co fs os → RowB 11 row → row.length ≤ 13 →
  H' p = some (.tup [rv, .bl (decide (crossedOf fs = [] ∧ s = 1)), .bl (decide (crossedOf fs = [] ∧ s = -1))]) → IsF K H' rv row → But d H H' → IsPen c H' d (k + 30) → Q (.ref p) H'
/-- the first row -/
theorem first_q {s c : Int} (hs : s = 1 ∨ s = -1) (hc : 1 ≤ c) : (Rat.divInt s c).num = s ∧ ((Rat.divInt s c).den : Int) = c := by
  have hg : Int.gcd s c = 1 := by
    rcases hs with rfl | rfl
    · exact Int.one_gcd
    · simp
  have h1 := num_low (a := s) (b := c) (by omega)
  have h2 := den_low (a := s) (b := c) (by omega)
  rw [hg] at h1 h2
  exact ⟨by rw [← h1]; simp, by rw [← h2]; simp⟩
theorem rowB_first {s c : Int} (hs : s = 1 ∨ s = -1) (hc : 1 ≤ c) (h9 : c ≤ 9) : RowB 0 [Rat.divInt s c] := by
  obtain ⟨h1, h2⟩ := first_q hs hc
  refine ⟨(Rat.divInt s c).den, 1, Rat.den_pos _, fun q hq => ?_, by omega, by decide⟩
  rw [List.mem_singleton.mp hq]
  refine (bq_self (Rat.divInt s c)).mono ?_
  rw [h1]
  rcases hs with rfl | rfl <;> decide
theorem rowB_more {j k : Nat} {row : List Rat} (h : RowB j row) (hk : j ≤ k) : RowB k row := by
  obtain ⟨D, M, hD, hR, hd, hm⟩ := h
  exact ⟨D, M, hD, hR, Nat.le_trans hd (Nat.mul_le_mul_left _ (Nat.pow_le_pow_right (by decide) hk)), Nat.le_trans hm (Nat.pow_le_pow_right (by decide) (by omega))⟩
section
variable {P : Program} {w : World} {K : PySem.W.Frag} {mg : Str → Option Value} {base : Heap}
theorem h_L_planted (T : Txt K mg) {k : Nat} (G_L_draw : Has P w K mg base "_law_draw" ["_law_pen_here", "_law_many"] k sp_L_draw) (G_L_row_times : Has P w K mg base "_law_row_times" ["_law_one", "_law_two"] k (sp_L_row_times K)) (G_L_root_factor : Has P w K mg base "_law_root_factor" ["_law_pen_here"] k (sp_L_root_factor K)) (G_L_pick : Has P w K mg base "_law_pick" ["_law_pen_here", "_law_some"] k sp_L_pick) : Has P w K mg base "_law_planted" ["_law_pen_here"] (k + 1) (sp_L_planted K) := by
  refine has_of T.d_L_planted sc_L_planted (fun vs H Q E h => ?_) (fun f cdv A outer s H vs Q E hr h => ?_)
  · obtain ⟨c, d, n, rfl, _⟩ := h
    rfl
  · obtain ⟨c, d, n, rfl, hpen, hn, q⟩ := h
    have huD : A.units + 3 + 65 < cLine := by
      have h := hr.un
      have e : (A.deeper (envOfC "_law_planted" (defScope s_L_planted) s.heap.objs.size f cdv)).units = A.units + 3 := rfl
      omega
    refine ⟨_, (pss_cons (ps_par3 (i := 1) (j := 2) (l := 3) (by rfl) sc_L_planted.nd rfl rfl rfl (by decide) (by decide) (by decide) rfl rfl rfl (pa_cons (pe_tup (pa_cons (pe_tup (pa_cons (pe_callH G_L_pick hr (by rfl) (pa_cons (pv 0) (pa_cons (pe_lst (pa_cons pe_int (pa_cons pe_int (pa_cons (pe_un un_neg pe_int) pa_nil)))) pa_nil))) (pa_cons (pe_op op_add pe_int (pe_callH G_L_draw hr (by rfl) (pa_cons (pv 0) (pa_cons pe_int pa_nil)))) pa_nil))) pa_nil)) (pa_cons (pe_lst pa_nil) (pa_cons (pe_lst pa_nil) pa_nil))) (by rfl)) (pss_cons (ps_set (i := 4) sc_L_planted.nd rfl (.inl rfl) (pe_ix ix_tup (pe_ix ix_tup (pv 1) pe_int (fun _ _ => rfl)) pe_int (fun _ _ => rfl))) (Evl.pss_cut (ps_for PassesOwn.never rfl (pi_range1 (by rfl) T.b_range (pa_cons (pe_callH G_L_draw hr (by rfl) (pa_cons (pv 0) (pa_cons pe_int pa_nil))) pa_nil)) (pg_name (i := 5) sc_L_planted.nd rfl (.inl rfl)) (pss_cons (ps_par (i := 6) (j := 7) (by rfl) sc_L_planted.nd rfl rfl (by decide) rfl rfl (pa_cons (pe_callH G_L_root_factor hr (by rfl) (pa_cons (pv 0) pa_nil)) (pa_cons (pe_callH G_L_pick hr (by rfl) (pa_cons (pv 0) (pa_cons (pe_lst (pa_cons pe_int (pa_cons pe_int (pa_cons pe_int (pa_cons pe_int (pa_cons pe_int pa_nil)))))) pa_nil))) pa_nil)) (by rfl)) (pss_one (ps_if (PW.pt (pw_and (pt_cmpR (op_notInD huD) (pv 6) (pv 3) (by rfl)) (pw_and1 (pt_cmpR op_lt (pe_op op_add (pe_callB call_len_seq (by rfl) T.b_len PySem.boot_len (pa_cons (pv 1) pa_nil)) (pe_op op_mulX (pv 7) (pe_op op_sub (pe_callB call_len_seq (by rfl) T.b_len PySem.boot_len (pa_cons (pv 6) pa_nil)) pe_int))) pe_int (nomark _))))) (pss_cons (ps_expr (pe_bm PySem.F.plainAttrs_list PySem.F.slot_list_append PySem.F.type_list_append mt_append (pv 3) (pa_cons (pv 6) pa_nil))) (Evl.pss_cut (ps_set (i := 2) sc_L_planted.nd rfl (.inl rfl) (pe_ifExp (pt_cmpR op_ne (pv 7) pe_int (nomark _)) (pe_op op_cat (pv 2) (pe_lst (pa_cons (pv 6) pa_nil))) (pv 2))) (pss_one (ps_for PassesOwn.never rfl (pi_range1 (by rfl) T.b_range (pa_cons (pv 7) pa_nil)) (pg_name (i := 8) sc_L_planted.nd rfl (.inl rfl)) (pss_one (ps_set (i := 1) sc_L_planted.nd rfl (.inl rfl) (pe_callH G_L_row_times hr (by rfl) (pa_cons (pv 1) (pa_cons (pv 6) pa_nil))))))))) pss_nil)))) (pss_cons (ps_set (i := 9) sc_L_planted.nd rfl (.inl rfl) (pe_lst (pa_cons (pe_tup (pa_cons (pe_tup (pa_cons pe_int (pa_cons pe_int pa_nil))) (pa_cons (pe_tup (pa_cons pe_int (pa_cons pe_int pa_nil))) pa_nil))) (pa_cons (pe_tup (pa_cons (pe_tup (pa_cons pe_int (pa_cons pe_int pa_nil))) (pa_cons (pe_tup (pa_cons (pe_un un_neg pe_int) (pa_cons pe_int pa_nil))) pa_nil))) (pa_cons (pe_tup (pa_cons (pe_tup (pa_cons pe_int (pa_cons pe_int pa_nil))) (pa_cons (pe_tup (pa_cons pe_int (pa_cons pe_int pa_nil))) (pa_cons (pe_tup (pa_cons pe_int (pa_cons pe_int pa_nil))) pa_nil)))) (pa_cons (pe_tup (pa_cons (pe_tup (pa_cons pe_int (pa_cons pe_int pa_nil))) (pa_cons (pe_tup (pa_cons (pe_un un_neg pe_int) (pa_cons pe_int pa_nil))) (pa_cons (pe_tup (pa_cons pe_int (pa_cons pe_int pa_nil))) pa_nil)))) pa_nil)))))) (Evl.pss_cut (ps_for PassesOwn.never rfl (pi_range1 (by rfl) T.b_range (pa_cons (pe_callH G_L_draw hr (by rfl) (pa_cons (pv 0) (pa_cons pe_int pa_nil))) pa_nil)) (pg_name (i := 5) sc_L_planted.nd rfl (.inl rfl)) (pss_one (ps_set (i := 1) sc_L_planted.nd rfl (.inl rfl) (pe_callH G_L_row_times hr (by rfl) (pa_cons (pv 1) (pa_cons (pe_callH G_L_pick hr (by rfl) (pa_cons (pv 0) (pa_cons (pv 9) pa_nil))) pa_nil)))))) (pss_one (ps_ret (pe_tup (pa_cons (pv 1) (pa_cons (pe_and (pe_cmpR (op_eqD hr.units) (pv 2) (pe_lst pa_nil) (nomark _)) (pe_one (pe_cmpR op_eq (pv 4) pe_int (nomark _)))) (pa_cons (pe_and (pe_cmpR (op_eqD hr.units) (pv 2) (pe_lst pa_nil) (nomark _)) (pe_one (pe_cmpR op_eq (pv 4) (pe_un un_neg pe_int) (nomark _)))) pa_nil))))))))))), ?_⟩
    -- the first row
    refine ⟨_, rfl, _, rfl, by show 3 ≤ sizeLine; decide, fun l hl => ?_⟩
    have s1 := same_new (o := .lst [.int 1, .int 1, .int (-1)]) hl
    refine ⟨c, d, l, _, n, rfl, hpen.same s1, upd_same, by simp, by omega, fun v H1 hv b1 hp1 => ?_⟩
    obtain ⟨sg, rfl, hsg⟩ : ∃ sg : Int, v = .int sg ∧ (sg = 1 ∨ sg = -1) := by
      dsimp only at hv
      simp only [List.mem_cons, List.not_mem_nil, or_false] at hv
      rcases hv with rfl | rfl | rfl
      · exact ⟨1, rfl, .inl rfl⟩
      · exact ⟨1, rfl, .inl rfl⟩
      · exact ⟨-1, rfl, .inr rfl⟩
    have b1' : But d H H1 := (Same.but d s1).trans b1
    refine ⟨_, rfl, c, d, 9, n + 1, rfl, hp1, by decide, by omega, fun x H2 x0 x1 b2 hp2 => ?_⟩
    have b2' := b1'.trans b2
    refine ⟨_, _, rfl, rfl, by show 2 ≤ sizeLine; decide, fun p1 hq1 => ?_⟩
    have s3 := same_new (o := .tup [.int sg, .int (1 + x)]) hq1
    refine ⟨by show 1 ≤ sizeLine; decide, fun p2 hq2 => ?_⟩
    have s4 := same_new (o := .tup [.ref p1]) hq2
    refine ⟨Nat.zero_le _, fun C hC => ?_⟩
    have s5 := same_new (o := .lst []) hC
    refine ⟨Nat.zero_le _, fun U hU => ?_⟩
    have s6 := same_new (o := .lst []) hU
    refine ⟨_, _, _, rfl, ?_⟩
    have t1 : SqT K _ p1 [.int sg, .int (1 + x)] := SqT.of (s6 _ _ (s5 _ _ (s4 _ _ (upd_same (H := H2) (a := p1) (o := .tup [.int sg, .int (1 + x)])))))
    have t2 : SqT K _ p2 [.ref p1] := SqT.of (s6 _ _ (s5 _ _ (upd_same (H := upd H2 p1 (.tup [.int sg, .int (1 + x)])) (a := p2) (o := .tup [.ref p1]))))
    have eC := s6 _ _ (upd_same (H := upd (upd H2 p1 (.tup [.int sg, .int (1 + x)])) p2 (.tup [.ref p1])) (a := C) (o := .lst []))
    have eU := upd_same (H := upd (upd (upd H2 p1 (.tup [.int sg, .int (1 + x)])) p2 (.tup [.ref p1])) C (.lst [])) (a := U) (o := .lst [])
    have s36 := s3.trans (s4.trans (s5.trans s6))
    have nUC : C ≠ U := ne_of_none (upd_same (H := upd (upd H2 p1 (.tup [.int sg, .int (1 + x)])) p2 (.tup [.ref p1])) (a := C) (o := .lst [])) hU
    have nU2 : H2 U = none := (s3.trans (s4.trans s5)).free hU
    have nU : H U = none := But.none hp2 b2' nU2
    have b6 := b2'.trans (Same.but d s36)
    have hp6 := hp2.same s36
    obtain ⟨fq1, fq2⟩ := first_q (c := 1 + x) hsg (by omega)
    have hrow0 : IsF K _ (.ref p2) [Rat.divInt sg (1 + x)] := ⟨p2, [.ref p1], rfl, t2, .cons ⟨p1, rfl, by rw [fq1, fq2]; exact t1⟩ .nil⟩
    have hdU : U ≠ d := fun e => by
      obtain ⟨cells, a, dg, n, f, e1, _⟩ := hpen
      rw [e, e1] at nU
      cases nU
    have hcU : U ≠ c := fun e => by
      obtain ⟨cells, a, dg, n, f, _, e1, _⟩ := hpen
      rw [e, e1] at nU
      cases nU
    have hrb0 := rowB_first hsg (show 1 ≤ 1 + x by omega) (by omega)
    have hco : 1 ≤ 1 + x ∧ 1 + x ≤ 9 := by omega
    -- sign
    refine ⟨_, rfl, p2, _, 0, _, rfl, rfl, t2, atI_nat (j := 0) rfl, p1, _, 0, _, rfl, rfl, t1, atI_nat (j := 0) rfl, ?_⟩
    generalize upd (upd (upd (upd H2 p1 (.tup [.int sg, .int (1 + x)])) p2 (.tup [.ref p1])) C (.lst [])) U (.lst []) = H6 at eC eU b6 hp6 hrow0
    generalize hq0 : Rat.divInt sg (1 + x) = q0 at hrow0 hrb0
    have nc0 : crossedOf ([] : List (List Rat × Nat)) = [] := rfl
    -- the loop over the factors
    refine ⟨fun σ H' => ∃ rv C cs fs y5 y6 y7 y8, σ = [some (.ref d), some rv, some (.ref C), some (.ref U), some (.int sg), y5, y6, y7, y8, none] ∧ But d H H' ∧ IsPen c H' d (n + 20) ∧ IsF K H' rv (rowFs [q0] fs) ∧ H' C = some (.lst cs) ∧ Paired (IsF K H') cs (crossedOf fs) ∧ fs.length ≤ 3 ∧ (∀ p ∈ fs, RootFac p.1 ∧ 1 ≤ p.2 ∧ p.2 ≤ 3) ∧ (fs.map (·.1)).Nodup ∧ LenOk [q0] fs ∧ RowB 9 (rowFs [q0] fs) ∧ (rowFs [q0] fs).length ≤ 9, ?_, fun σ H7 hM => ?_⟩
    · refine ⟨_, rfl, c, d, 4, n + 2, rfl, hp6, by decide, by omega, fun m H7 m0 m1 b7 hp7 => ?_⟩
      have g7 := hp6.gr b7
      refine ⟨m, rfl, by omega, by omega, for_range (lo := 0) (n := m.toNat) (fun i σ H' => ∃ rv C cs us fs y5 y6 y7 y8, σ = [some (.ref d), some rv, some (.ref C), some (.ref U), some (.int sg), y5, y6, y7, y8, none] ∧ But d H H' ∧ IsPen c H' d (n + 3 + 5 * i) ∧ IsF K H' rv (rowFs [q0] fs) ∧ H' C = some (.lst cs) ∧ C ≠ U ∧ Paired (IsF K H') cs (crossedOf fs) ∧ H' U = some (.lst us) ∧ Paired (IsF K H') us (fs.map (·.1)) ∧ fs.length ≤ i ∧ (∀ p ∈ fs, RootFac p.1 ∧ 1 ≤ p.2 ∧ p.2 ≤ 3) ∧ (fs.map (·.1)).Nodup ∧ LenOk [q0] fs ∧ RowB (3 * i) (rowFs [q0] fs) ∧ (rowFs [q0] fs).length ≤ 9)
        ⟨_, C, [], [], [], _, _, _, _, rfl, b6.trans b7, hp7, hrow0.gr g7, But.lst hp6 b7 eC, nUC, .nil, But.lst hp6 b7 eU, .nil, Nat.zero_le _, (fun p hp => by cases hp), List.nodup_nil, trivial, hrb0, by show 1 ≤ 9; decide⟩ (fun i σ H' hi h => ?_) (fun σ H' h => ?_)⟩
      · obtain ⟨rv, C, cs, us, fs, y5, y6, y7, y8, rfl, b, hp, hrow, eC, nUC, hPc, eU, hPu, lfs, hfac, hnd, hlen, hrb, hrl⟩ := h
        refine ⟨_, rfl, c, d, n + 3 + 5 * i, rfl, hp, by omega, fun fv f H1 hF hfv b1 hp1 => ?_⟩
        refine ⟨_, rfl, by show 5 ≤ sizeLine; decide, fun l hl => ?_⟩
        have s1 := same_new (o := .lst [.int 1, .int 2, .int 2, .int 2, .int 3]) hl
        refine ⟨c, d, l, _, n + 3 + 5 * i + 4, rfl, hp1.same s1, upd_same, by simp, by omega, fun tv H2 ht b2 hp2 => ?_⟩
        obtain ⟨t, rfl, ht1, ht3⟩ : ∃ t : Nat, tv = .int (t : Int) ∧ 1 ≤ t ∧ t ≤ 3 := by
          simp only [List.mem_cons, List.not_mem_nil, or_false] at ht
          rcases ht with rfl | rfl | rfl | rfl | rfl
          · exact ⟨1, rfl, by decide, by decide⟩
          · exact ⟨2, rfl, by decide, by decide⟩
          · exact ⟨2, rfl, by decide, by decide⟩
          · exact ⟨2, rfl, by decide, by decide⟩
          · exact ⟨3, rfl, by decide, by decide⟩
        have b12 := b1.trans ((Same.but d s1).trans b2)
        have g12 := hp.gr b12
        have bb := b.trans b12
        have hrow2 := hrow.gr g12
        have hfv2 := hfv.gr ((hp1.same s1).gr b2 |> fun g => (Same.gr s1).trans g)
        have eC2 := But.lst hp b12 eC
        have eU2 := But.lst hp b12 eU
        have hPc2 := pairedF_gr g12 hPc
        have hPu2 := pairedF_gr g12 hPu
        refine ⟨_, _, rfl, ?_⟩
        dsimp only
        refine Evl.s_if (b := decide (f ∉ fs.map (·.1) ∧ (rowFs [q0] fs).length + t * (f.length - 1) < 10)) (fun H5 e5 Q5 q5 => ?_) (fun hb H5 e5 => ?_) (fun hb H5 e5 => ?_)
        · obtain ⟨pr, rvs, rfl, hrt, hrp⟩ := hrow2
          obtain ⟨pf, fvs, rfl, hft, hfp⟩ := id hfv2
          have lr := hrp.length
          have lf := hfp.length
          have hf1 : 1 ≤ f.length ∧ f.length ≤ 4 := by cases hF <;> exact ⟨by simp, by simp⟩
          refine ⟨_, rfl, _, rfl, fD f, (fs.map fun x : List Rat × Nat => x.1).map fD, dp_f (hfv2.gr (Same.gr e5)), .lst (.of (e5 _ _ eU2)) (dpAll_f (pairedF_gr (K := K) (Same.gr e5) hPu2)), fD_shaped _, fDs_shaped _, _, rfl, ?_⟩
          rw [any_f]
          by_cases h1 : f ∈ fs.map (·.1)
          · refine ifF (by rw [decide_eq_true h1]; rfl) ?_
            rw [decide_eq_false (fun z => z.1 h1)] at q5
            exact q5 _ (Same.refl _)
          refine ifT (by rw [decide_eq_false h1]; rfl) ?_
          refine ⟨_, rfl, pr, _, rfl, .inr (Same.t e5 hrt), _, rfl, _, rfl, pf, _, rfl, .inr (Same.t e5 hft), _, _, rfl, rfl, _, _, rfl, rfl, mul_sm (sm_of (n := 10) (by omega) (by decide)) (sm_of (n := 10) (by omega) (by decide)), _, _, rfl, rfl, _, _, rfl, rfl, _, rfl, ?_⟩
          have e : decide (f ∉ fs.map (·.1) ∧ (rowFs [q0] fs).length + t * (f.length - 1) < 10) = decide ((rvs.length : Int) + (t : Int) * ((fvs.length : Int) - 1) < 10) := decide_eq_decide.mpr (by
            have e1 : ((t * (f.length - 1) : Nat) : Int) = (t : Int) * ((fvs.length : Int) - 1) := by
              rw [Int.natCast_mul, Int.natCast_sub hf1.1, ← lf]
              rfl
            refine ⟨fun z => by omega, fun z => ⟨h1, by omega⟩⟩)
          rw [e] at q5
          exact q5 _ (Same.refl _)
        · obtain ⟨hnin, hfit⟩ := of_decide_eq_true hb
          have lus := hPu2.length
          have lcs := hPc2.length
          have lcs' : (crossedOf fs).length ≤ fs.length := by
            unfold crossedOf
            rw [List.length_map]
            exact List.length_filter_le _ _
          rw [List.length_map] at lus
          refine ⟨_, rfl, .inl ⟨rfl, _, .of (e5 _ _ eU2)⟩, _, rfl, U, _, _, rfl, rfl, e5 _ _ eU2, by rw [lus]; exact small1000 (by omega), ?_⟩
          have eU5 := e5 _ _ eU2
          have gU : Gr H5 (upd H5 U (.lst (us ++ [fv]))) := gr_mut eU5
          have b6' : But d H (upd H5 U (.lst (us ++ [fv]))) := but_mut (bb.trans (Same.but d e5)) nU
          have hp6' := (hp2.same e5).mut (o := .lst (us ++ [fv])) hdU hcU
          have eC6 : (upd H5 U (.lst (us ++ [fv]))) C = some (.lst cs) := by rw [upd_ne nUC]; exact e5 _ _ eC2
          have eU6 : (upd H5 U (.lst (us ++ [fv]))) U = some (.lst (us ++ [fv])) := upd_same
          have g26 := (Same.gr e5).trans gU
          have hrow6 := hrow2.gr g26
          have hfv6 := hfv2.gr g26
          have hPc6 := pairedF_gr (K := K) g26 hPc2
          have hPu6 : Paired (IsF K (upd H5 U (.lst (us ++ [fv])))) (us ++ [fv]) ((fs ++ [(f, t)]).map (·.1)) := by
            rw [List.map_append]
            exact paired_snoc (pairedF_gr (K := K) g26 hPu2) hfv6
          generalize upd H5 U (.lst (us ++ [fv])) = H6' at b6' hp6' eC6 eU6 hrow6 hfv6 hPc6 hPu6
          -- crossed
          refine ⟨fun σ H' => ∃ C cs y8, σ = [some (.ref d), some rv, some (.ref C), some (.ref U), some (.int sg), some (.int (0 + (i : Nat))), some fv, some (.int (t : Int)), y8, none] ∧ But d H H' ∧ IsPen c H' d (n + 3 + 5 * i + 5) ∧ IsF K H' rv (rowFs [q0] fs) ∧ H' C = some (.lst cs) ∧ C ≠ U ∧ Paired (IsF K H') cs (crossedOf (fs ++ [(f, t)])) ∧ H' U = some (.lst (us ++ [fv])) ∧ Paired (IsF K H') (us ++ [fv]) ((fs ++ [(f, t)]).map (·.1)) ∧ IsF K H' fv f, ?_, fun σ H7' hM => ?_⟩
          · refine ⟨_, rfl, rfl, _, rfl, ?_⟩
            by_cases h2 : t = 2
            · have hb2 : (!decide (V.int (t : Int) = V.int 2)) = false := by rw [h2]; rfl
              refine ifF hb2 ?_
              refine ⟨_, rfl, C, cs, _, rfl, b6', hp6', hrow6, eC6, nUC, ?_, eU6, hPu6, hfv6⟩
              have e : crossedOf (fs ++ [(f, t)]) = crossedOf fs := by
                unfold crossedOf
                rw [List.filter_append]
                simp [h2]
              rw [e]
              exact hPc6
            · have h2' : (V.int (t : Int)) ≠ V.int 2 := fun z => h2 (by have := V.int.inj z; omega)
              have hb2 : (!decide (V.int (t : Int) = V.int 2)) = true := by rw [decide_eq_false h2']; rfl
              refine ifT hb2 ?_
              refine ⟨_, rfl, _, rfl, by show 1 ≤ sizeLine; decide, fun l1 hl1 => ?_⟩
              have s1 := same_new (o := .lst [fv]) hl1
              refine ⟨C, l1, cs, [fv], rfl, rfl, s1 _ _ eC6, upd_same, by rw [lcs]; exact Nat.le_of_lt (small1000 (by show _ + 1 ≤ 1000; omega)), fun C2 hC2 => ?_⟩
              have s2 := s1.trans (same_new (o := .lst (cs ++ [fv])) hC2)
              refine ⟨C2, _, _, rfl, b6'.trans (Same.but d s2), hp6'.same s2, hrow6.mono s2, upd_same, (ne_of_none (s1 _ _ eU6) hC2).symm, ?_, s2 _ _ eU6, pairedF_gr (K := K) (Same.gr s2) hPu6, hfv6.mono s2⟩
              have e : crossedOf (fs ++ [(f, t)]) = crossedOf fs ++ [f] := by
                unfold crossedOf
                rw [List.filter_append, List.map_append]
                simp [h2]
              rw [e]
              exact paired_snoc (pairedF_gr (K := K) (Same.gr s2) hPc6) (hfv6.mono s2)
          · obtain ⟨C, cs, y8, rfl, b7', hp7', hrow7, eC7, nUC7, hPc7, eU7, hPu7, hfv7⟩ := hM
            have hfb := rootFac_b hF
            refine ⟨_, rfl, (t : Int), rfl, by omega, by omega, for_range (lo := 0) (n := (t : Int).toNat) (fun j σ H' => ∃ rv y8, σ = [some (.ref d), some rv, some (.ref C), some (.ref U), some (.int sg), some (.int (0 + (i : Nat))), some fv, some (.int (t : Int)), y8, none] ∧ Same H7' H' ∧ IsF K H' rv (mulN (rowFs [q0] fs) f j) ∧ RowB (3 * i + j) (mulN (rowFs [q0] fs) f j) ∧ (mulN (rowFs [q0] fs) f j).length ≤ (rowFs [q0] fs).length + j * (f.length - 1))
              ⟨rv, _, rfl, Same.refl _, hrow7, hrb, Nat.le_add_right _ _⟩ (fun j σ H' hj h => ?_) (fun σ H' h => ?_)⟩
            · obtain ⟨rv', y8', rfl, sj, hrj, hbj, hlj⟩ := h
              have hj' : j < t := by omega
              have hjt : (j + 1) * (f.length - 1) ≤ t * (f.length - 1) := Nat.mul_le_mul_right _ hj'
              rw [Nat.succ_mul] at hjt
              obtain ⟨hmk, hb'⟩ := rowB_mul (by omega) (by omega) hbj hfb
              refine ⟨_, rfl, _, rfl, rv', fv, _, _, rfl, hrj, hfv7.mono sj, hmk, fun z H'' s'' hz => ?_⟩
              refine ⟨z, _, rfl, sj.trans s'', hz, hb', ?_⟩
              have := mulQ_len (mulN (rowFs [q0] fs) f j) f
              rw [Nat.succ_mul]
              show (mulQ (mulN (rowFs [q0] fs) f j) f).length ≤ _
              omega
            · obtain ⟨rv', y8', rfl, sj, hrj, hbj, hlj⟩ := h
              rw [Int.toNat_natCast] at hrj hbj hlj
              refine ⟨rv', C, cs, _, fs ++ [(f, t)], _, _, _, _, rfl, b7'.trans (Same.but d sj), (hp7'.same sj).more (by omega), ?_, sj _ _ eC7, nUC7, pairedF_gr (K := K) (Same.gr sj) hPc7, sj _ _ eU7, pairedF_gr (K := K) (Same.gr sj) hPu7, ?_, ?_, ?_, lenOk_snoc hlen hfit, ?_, ?_⟩
              · rw [rowFs_snoc]
                exact hrj
              · rw [List.length_append]
                show _ + 1 ≤ _
                omega
              · intro p hp
                rcases List.mem_append.mp hp with h | h
                · exact hfac p h
                · rw [List.mem_singleton.mp h]
                  exact ⟨hF, ht1, ht3⟩
              · rw [List.map_append]
                refine List.nodup_append.mpr ⟨hnd, by simp, fun a ha b hb e => ?_⟩
                rw [List.map_cons, List.map_nil, List.mem_singleton] at hb
                exact hnin (by have e2 : a = f := e.trans hb; rw [← e2]; exact ha)
              · rw [rowFs_snoc]
                exact rowB_more hbj (by omega)
              · rw [rowFs_snoc]
                omega
        · exact ⟨rv, C, cs, us, fs, _, _, _, _, rfl, bb.trans (Same.but d e5), (hp2.same e5).more (by omega), hrow2.gr (Same.gr e5), e5 _ _ eC2, nUC, pairedF_gr (Same.gr e5) hPc2, e5 _ _ eU2, pairedF_gr (Same.gr e5) hPu2, by omega, hfac, hnd, hlen, rowB_more hrb (by omega), hrl⟩
      · obtain ⟨rv, C, cs, us, fs, y5, y6, y7, y8, rfl, b, hp, hrow, eC, nUC, hPc, eU, hPu, lfs, hfac, hnd, hlen, hrb, hrl⟩ := h
        exact ⟨rv, C, cs, fs, _, _, _, _, rfl, b, hp.more (by omega), hrow, eC, hPc, by omega, hfac, hnd, hlen, rowB_more hrb (by omega), hrl⟩
    -- the others
    obtain ⟨rv, C, cs, fs, y5, y6, y7, y8, rfl, b7, hp7, hrow7, eC7, hPc7, lfs, hfac, hnd, hlen, hrb7, hrl7⟩ := hM
    refine mk_lst0 (R := IsF K) (Nat.le_of_ble_eq_true rfl) (four_facs (m1 := -1) (o := 1) (z := 0) (tw := -2) (th := 3) lit_m1 lit_1 lit_0 lit_m2 lit_3) fun l vs H8 s8 hl hvs => ?_
    have lvs := hvs.length
    have s9 := same_new (o := .lst vs) hl
    have s79 := s8.trans s9
    have b9 := b7.trans (Same.but d s79)
    have hp9 := hp7.same s79
    have hrow9 := hrow7.mono s79
    have eC9 := s79 _ _ eC7
    have hPc9 := pairedF_gr (K := K) (Same.gr s79) hPc7
    have el9 := upd_same (H := H8) (a := l) (o := .lst vs)
    have hvs9 := pairedF_gr (K := K) (Same.gr s9) hvs
    generalize upd H8 l (.lst vs) = H9 at b9 hp9 hrow9 eC9 hPc9 el9 hvs9
    refine ⟨fun σ H' => ∃ rv os y5, σ = [some (.ref d), some rv, some (.ref C), some (.ref U), some (.int sg), y5, y6, y7, y8, some (.ref l)] ∧ But d H H' ∧ IsPen c H' d (n + 24) ∧ IsF K H' rv (rowOs (rowFs [q0] fs) os) ∧ H' C = some (.lst cs) ∧ Paired (IsF K H') cs (crossedOf fs) ∧ os.length ≤ 2 ∧ (∀ o ∈ os, OthFac o) ∧ RowB 11 (rowOs (rowFs [q0] fs) os) ∧ (rowOs (rowFs [q0] fs) os).length ≤ 13, ?_, fun σ H7 hM => ?_⟩
    · refine ⟨_, rfl, c, d, 3, n + 20, rfl, hp9, by decide, by omega, fun m H7 m0 m1 b7 hp7 => ?_⟩
      have g7 := hp9.gr b7
      refine ⟨m, rfl, by omega, by omega, for_range (lo := 0) (n := m.toNat) (fun i σ H' => ∃ rv os y5, σ = [some (.ref d), some rv, some (.ref C), some (.ref U), some (.int sg), y5, y6, y7, y8, some (.ref l)] ∧ But d H H' ∧ IsPen c H' d (n + 21 + i) ∧ IsF K H' rv (rowOs (rowFs [q0] fs) os) ∧ H' C = some (.lst cs) ∧ Paired (IsF K H') cs (crossedOf fs) ∧ H' l = some (.lst vs) ∧ Paired (IsF K H') vs [[0, 1], [1, -1], [1, 0, 1], [1, -2, 3]] ∧ os.length ≤ i ∧ (∀ o ∈ os, OthFac o) ∧ RowB (9 + i) (rowOs (rowFs [q0] fs) os) ∧ (rowOs (rowFs [q0] fs) os).length ≤ 9 + 2 * i)
        ⟨rv, [], _, rfl, b9.trans b7, hp7, hrow9.gr g7, But.lst hp9 b7 eC9, pairedF_gr g7 hPc9, But.lst hp9 b7 el9, pairedF_gr g7 hvs9, Nat.zero_le _, (fun o ho => by cases ho), hrb7, hrl7⟩ (fun i σ H' hi h => ?_) (fun σ H' h => ?_)⟩
      · obtain ⟨rv, os, y5, rfl, b, hp, hrow, eC, hPc, el, hP, los, hoth, hrb, hrl⟩ := h
        refine ⟨_, rfl, _, rfl, _, rfl, c, d, l, vs, n + 21 + i, rfl, hp, el, (fun e => by rw [e] at lvs; cases lvs), by omega, fun ov H1 hov b1 hp1 => ?_⟩
        obtain ⟨o, ho, hro⟩ := paired_mem hP hov
        have hO : OthFac o := by
          simp only [List.mem_cons, List.not_mem_nil, or_false] at ho
          rcases ho with rfl | rfl | rfl | rfl
          · exact .p
          · exact .q
          · exact .r
          · exact .s
        have g1 := hp.gr b1
        have lo3 : o.length ≤ 3 := by cases hO <;> simp
        obtain ⟨hmk, hb'⟩ := rowB_mul (by omega) (by omega) hrb (othFac_b hO)
        refine ⟨rv, ov, _, _, rfl, hrow.gr g1, hro.gr g1, hmk, fun z H2 s2 hz => ?_⟩
        have eos : rowOs (rowFs [q0] fs) (os ++ [o]) = mulQ (rowOs (rowFs [q0] fs) os) o := by
          unfold rowOs
          rw [List.foldl_append]
          rfl
        have hml := mulQ_len (rowOs (rowFs [q0] fs) os) o
        refine ⟨z, os ++ [o], _, rfl, b.trans (b1.trans (Same.but d s2)), hp1.same s2, ?_, s2 _ _ (But.lst hp b1 eC), pairedF_gr (K := K) (Same.gr s2) (pairedF_gr g1 hPc), s2 _ _ (But.lst hp b1 el), pairedF_gr (K := K) (Same.gr s2) (pairedF_gr g1 hP), ?_, ?_, ?_, ?_⟩
        · rw [eos]
          exact hz
        · rw [List.length_append]
          show _ + 1 ≤ _
          omega
        · intro p hp
          rcases List.mem_append.mp hp with h | h
          · exact hoth p h
          · rw [List.mem_singleton.mp h]
            exact hO
        · rw [eos]
          exact hb'
        · rw [eos]
          omega
      · obtain ⟨rv, os, y5, rfl, b, hp, hrow, eC, hPc, el, hP, los, hoth, hrb, hrl⟩ := h
        exact ⟨rv, os, _, rfl, b, hp.more (by omega), hrow, eC, hPc, by omega, hoth, rowB_more hrb (by omega), by omega⟩
    · obtain ⟨rv, os, y5, rfl, b, hp, hrow, eC, hPc, los, hoth, hrb, hrl⟩ := hM
      refine ret_tup (R := fun H' ws => ws = [rv, .bl (decide (crossedOf fs = [] ∧ sg = 1)), .bl (decide (crossedOf fs = [] ∧ sg = -1))])
        (fun H0 s0 Q k => ma_cons0 (R := fun _ v => v = rv) (S := fun _ ws => ws = [.bl (decide (crossedOf fs = [] ∧ sg = 1)), .bl (decide (crossedOf fs = [] ∧ sg = -1))]) (fun _ h => h) (mk_var (i := 1) rfl fun _ _ => rfl) ?_ H0 s0 Q fun vs H' s' r => k vs H' s' ?_)
        (fun _ _ h => by rw [h]; exact Nat.le_of_ble_eq_true rfl) fun p vs H' s' hv hp' => ?_
      · exact fun H0 s0 Q k => ma_cons0 (R := fun _ v => v = .bl (decide (crossedOf fs = [] ∧ sg = 1))) (S := fun _ ws => ws = [.bl (decide (crossedOf fs = [] ∧ sg = -1))]) (fun _ h => h) (mk_none (K := K) (i := 2) (j := 4) (C := C) (cs := cs) rfl rfl mi_c eC hPc) (fun H0 s0 Q k => ma_cons0 (R := fun _ v => v = .bl (decide (crossedOf fs = [] ∧ sg = -1))) (S := fun _ ws => ws = []) (fun _ h => h) (mk_none (K := K) (i := 2) (j := 4) (C := C) (cs := cs) rfl rfl (mi_neg mi_c) eC hPc) ma_nil0 H0 s0 Q fun vs H' s' r => k vs H' s' (by obtain ⟨v, ws, rfl, rfl, rfl⟩ := r; rfl)) H0 s0 Q fun vs H' s' r => k vs H' s' (by obtain ⟨v, ws, rfl, rfl, rfl⟩ := r; rfl)
      · obtain ⟨v, ws, rfl, rfl, rfl⟩ := r
        rfl
      · subst hv
        have s2 := s'.trans (same_new (o := .tup [rv, .bl (decide (crossedOf fs = [] ∧ sg = 1)), .bl (decide (crossedOf fs = [] ∧ sg = -1))]) hp')
        exact q p rv (rowOs (rowFs [q0] fs) os) sg (1 + x) fs os _ ⟨hsg, hco.1, hco.2, lfs, hfac, hnd, hq0 ▸ hlen, los, hoth, by rw [hq0]⟩ hrb hrl upd_same (hrow.mono s2) (b.trans (Same.but d s2)) ((hp.same s2).more (by omega))
end
end Kq

set_option Elab.async false
set_option linter.all false
set_option maxRecDepth 100000
set_option maxHeartbeats 1000000
/-! is the answer right -/
namespace Kq
open PySem PySem.Spec PyProof.Rows L2
/-- what the law asks of an answer -/
def Right (row : List Rat) (due : Bool) (out : Option Rat) : Prop := (due = true ∧ out = none) ∨ (due = false ∧ ∃ p, out = some p ∧ 0 < p ∧ p < 1 ∧ QB 2990 p ∧ AtQ row p ∧ evQ row p < 0)
def sp_L_answer_right (K : PySem.W.Frag) : Sp := fun vs H Q _ => ∃ (v u r : V) (ps rs row : List Rat) (due : Bool) (out : Option Rat), vs = [v, u, r, .bl due] ∧ IsT K (IsN K H) H v ps ∧ IsT K (IsN K H) H u rs ∧ IsF K H r row ∧ NW ps rs out ∧ Right row due out ∧ ∀ H', Same H H' → Q (.bl true) H'
theorem qb_more {n m : Nat} {q : Rat} (h : QB n q) (l : n ≤ m) : QB m q := ⟨Nat.lt_of_lt_of_le h.1 (Nat.pow_le_pow_right (by decide) l), Nat.lt_of_lt_of_le h.2 (Nat.pow_le_pow_right (by decide) l)⟩
theorem qb_one : QB 1 1 := ⟨by decide, by decide⟩
section
variable {P : Program} {w : World} {K : PySem.W.Frag} {mg : Str → Option Value} {base : Heap}
theorem h_L_answer_right (T : Txt K mg) {k : Nat} (G_never_worse : Has P w K mg base "never_worse" ["one", "two"] k (sp_never_worse K)) (G_L_is_ratio : Has P w K mg base "_law_is_ratio" ["_law_value"] k (sp_L_is_ratio K)) (G_L_less : Has P w K mg base "_law_less" ["_law_one", "_law_two"] k (sp_L_less K)) (G_L_row_at : Has P w K mg base "_law_row_at" ["_law_row", "_law_p"] k (sp_L_row_at K)) : Has P w K mg base "_law_answer_right" ["_law_one", "_law_two", "_law_row", "_law_due"] (k + 1) (sp_L_answer_right K) := by
  refine has_of T.d_L_answer_right sc_L_answer_right (fun vs H Q E h => ?_) (fun f cdv A outer s H vs Q E hr h => ?_)
  · obtain ⟨v, u, r, ps, rs, row, due, out, rfl, _⟩ := h
    rfl
  · obtain ⟨v, u, r, ps, rs, row, due, out, rfl, hv, hu, hrow, hnw, hright, q⟩ := h
    refine ⟨_, (pss_cons (ps_set (i := 4) sc_L_answer_right.nd rfl (.inl rfl) (pe_callH G_never_worse hr (by rfl) (pa_cons (pv 0) (pa_cons (pv 1) pa_nil)))) (Evl.pss_cut (ps_if (pt_val (pv 3)) (pss_one (ps_ret (pe_cmpR op_isN (pv 4) pe_non (nomark _)))) pss_nil) (Evl.pss_cut (ps_if (PW.pt (pw_or (pt_not (pt_val (pe_callH G_L_is_ratio hr (by rfl) (pa_cons (pv 4) pa_nil)))) (pw_or (pt_not (pt_val (pe_callH G_L_less hr (by rfl) (pa_cons (pe_tup (pa_cons pe_int (pa_cons pe_int pa_nil))) (pa_cons (pv 4) pa_nil))))) (pw_or1 (pt_not (pt_val (pe_callH G_L_less hr (by rfl) (pa_cons (pv 4) (pa_cons (pe_tup (pa_cons pe_int (pa_cons pe_int pa_nil))) pa_nil))))))))) (pss_one (ps_ret pe_bl)) pss_nil) (pss_one (ps_ret (pe_cmpR op_lt (pe_ix ix_tup (pe_callH G_L_row_at hr (by rfl) (pa_cons (pv 2) (pa_cons (pv 4) pa_nil))) pe_int (fun _ _ => rfl)) pe_int (nomark _))))))), ?_⟩
    refine ⟨_, rfl, _, rfl, v, u, ps, rs, out, rfl, hv, hu, hnw, fun z H1 s1 hz => ?_⟩
    rcases hright with ⟨rfl, rfl⟩ | ⟨rfl, x, rfl, x0, x1, xb, xat, hx⟩
    · have hz' : z = .non := hz
      subst hz'
      refine ⟨fun _ _ => False, ⟨_, rfl, true, rfl, ?_⟩, fun _ _ h => h.elim⟩
      refine ifT rfl ?_
      exact ⟨_, rfl, rfl, q _ s1⟩
    · have hz' : IsQ K H1 z x := hz
      refine ⟨fun σ H' => σ = [some v, some u, some r, some (.bl false), some z] ∧ H' = H1, ⟨_, rfl, false, rfl, ?_⟩, fun σ H' hM => ?_⟩
      · exact ifF rfl ⟨rfl, rfl⟩
      obtain ⟨rfl, e⟩ := hM
      subst e
      refine ⟨fun σ H2 => σ = [some v, some u, some r, some (.bl false), some z] ∧ Same H' H2, ?_, fun σ H2 hM => ?_⟩
      · refine ⟨_, rfl, z, some x, rfl, hz', fun q e => by cases e; exact qb_more xb (by decide), ?_⟩
        refine ⟨_, rfl, ?_⟩
        refine ifF rfl ?_
        refine ⟨by show 2 ≤ sizeLine; decide, fun z1 hz1 => ?_⟩
        have s2 := same_new (o := .tup [.int 0, .int 1]) hz1
        refine ⟨_, rfl, .ref z1, z, 0, x, 1, 2990, rfl, ⟨z1, rfl, .of upd_same⟩, hz'.mono s2, qb_zero (by decide), xb, by decide, ?_⟩
        refine ⟨_, rfl, ?_⟩
        refine ifF (by rw [decide_eq_true x0]; rfl) ?_
        refine ⟨_, rfl, by show 2 ≤ sizeLine; decide, fun z2 hz2 => ?_⟩
        have s3 := s2.trans (same_new (o := .tup [.int 1, .int 1]) hz2)
        refine ⟨z, .ref z2, x, 1, 2990, 1, rfl, hz'.mono s3, ⟨z2, rfl, .of upd_same⟩, xb, qb_one, by decide, ?_⟩
        refine ⟨_, rfl, ?_⟩
        exact ifF (by rw [decide_eq_true x1]; rfl) ⟨rfl, s3⟩
      · obtain ⟨rfl, s2⟩ := hM
        have s3 := s1.trans s2
        refine ⟨_, rfl, _, rfl, r, z, row, x, rfl, hrow.mono s3, hz'.mono s2, xat, fun y H3 s4 hy => ?_⟩
        obtain ⟨p, rfl, hp⟩ := hy
        refine ⟨p, _, 0, _, rfl, rfl, hp, atI_nat (j := 0) rfl, _, _, rfl, rfl, ?_⟩
        have e : decide ((evQ row x).num < 0) = true := decide_eq_true (by
          have h1 := (Rat.lt_iff (evQ row x) 0).mp hx
          simpa using h1)
        show Q (.bl (decide ((evQ row x).num < 0))) H3
        rw [e]
        exact q _ (s3.trans s4)
end
end Kq

set_option Elab.async false
set_option linter.all false
set_option maxRecDepth 100000
set_option maxHeartbeats 1000000
/-! the law -/
namespace Kq
open PySem PySem.Spec PyProof.Rows L2
theorem IsPen.free {c : Addr} {H : Hp} {d p : Addr} {k : Nat} (h : IsPen c H d k) (hp : H p = none) : p ≠ d ∧ p ≠ c := by
  obtain ⟨cells, a, dg, n, f, e1, e2, r⟩ := h
  exact ⟨fun e => by rw [e, e1] at hp; (cases hp), fun e => by rw [e, e2] at hp; (cases hp)⟩
/-- a comprehension over range(n) that draws -/
theorem lcP {c d : Addr} {k0 st : Nat} {n : Nat} {H1 : Hp} {D : Addr} {g : TG} {te : TE} {vs : List Nat} {σ : L2.St} {Qd : Hp → Prop} (R : Nat → V → Hp → Prop) (hz : n ≤ 100000)
    (hpen : IsPen c H1 d k0) (hD : H1 D = none) (hR : ∀ i v H H', Gr H H' → R i v H → R i v H')
    (hs : ∀ (i : Nat) H', i < n → But d H1 H' → IsPen c H' d (k0 + st * i) → ∀ (Qk : VK) (Nx : Hp → Prop), (∀ v H3, But d H' H3 → IsPen c H3 d (k0 + st * (i + 1)) → R i v H3 → Qk v H3) →
      g (.int ((0 : Int) + (i : Int))) (wipe σ vs) H' fun σ2 H2 => wipe σ2 vs = wipe σ vs ∧ tYes σ2 H2 fun b H3 => if b = true then te σ2 H3 Qk else Nx H3)
    (hd : ∀ H' ws, But d H1 H' → IsPen c H' d (k0 + st * n) → H' D = some (.lst ws) → ws.length = n → (∀ i v, ws[i]? = some v → R i v H') → Qd H') :
    ∃ W : Nat → Nat → Hp → Prop, (∃ m, W 0 m (upd H1 D (.lst []))) ∧ ∀ i m H, W i m H →
      ((Itr 0 n).stop i H ∧ Qd H) ∨ ((Itr 0 n).go i H ∧ ∃ Nx : Hp → Prop, (∀ H', Nx H' → ∃ m', m' < m ∧ W (i + 1) m' H') ∧ ∀ x H', (Itr 0 n).yld i H x H' → g x (wipe σ vs) H' fun σ2 H2 => wipe σ2 vs = wipe σ vs ∧ tYes σ2 H2 fun b H3 =>
        if b = true then te σ2 H3 fun y H4 => ∃ acc, H4 D = some (.lst acc) ∧ acc.length < sizeLine ∧ Nx (upd H4 D (.lst (acc ++ [y]))) else Nx H3) := by
  have hf := hpen.free hD
  refine lcG (fun i H' => But d H1 H' ∧ IsPen c H' d (k0 + st * i) ∧ ∃ l, H' D = some (.lst l)) R hz ⟨Same.but d (same_new hD), hpen.same (same_new hD), _, upd_same⟩ (fun i H' l l' h _ => ⟨but_mut h.1 hD, h.2.1.mut hf.1 hf.2, _, upd_same⟩) hR (fun i H hi h => hi) (fun H h => Nat.le_refl _)
    (fun i x H' H'' hi h y Qk Nx k => ?_) (fun H' ws h e1 e2 e3 => hd H' ws h.1 h.2.1 e1 e2 e3)
  obtain ⟨rfl, rfl⟩ := y
  refine hs i _ hi h.1 h.2.1 Qk Nx fun v H3 b3 p3 r3 => ?_
  obtain ⟨l, hl⟩ := h.2.2
  have e := But.lst h.2.1 b3 hl
  exact k v H3 ⟨h.1.trans b3, p3, l, e⟩ (h.2.1.gr b3) (e.trans hl.symm) r3
/-- a comprehension over a tuple that draws -/
theorem lcQ {K : PySem.W.Frag} {a : Addr} {xs : List V} {c d : Addr} {k0 st : Nat} {H1 : Hp} {D : Addr} {g : TG} {te : TE} {vs : List Nat} {σ : L2.St} {Qd : Hp → Prop} (R : Nat → V → Hp → Prop) (hz : xs.length ≤ 100000)
    (hpen : IsPen c H1 d k0) (hD : H1 D = none) (hx : SqT K H1 a xs) (hR : ∀ i v H H', Gr H H' → R i v H → R i v H')
    (hs : ∀ (i : Nat) x H', xs[i]? = some x → But d H1 H' → IsPen c H' d (k0 + st * i) → ∀ (Qk : VK) (Nx : Hp → Prop), (∀ v H3, But d H' H3 → IsPen c H3 d (k0 + st * (i + 1)) → R i v H3 → Qk v H3) →
      g x (wipe σ vs) H' fun σ2 H2 => wipe σ2 vs = wipe σ vs ∧ tYes σ2 H2 fun b H3 => if b = true then te σ2 H3 Qk else Nx H3)
    (hd : ∀ H' ws, But d H1 H' → IsPen c H' d (k0 + st * xs.length) → H' D = some (.lst ws) → ws.length = xs.length → (∀ i v, ws[i]? = some v → R i v H') → Qd H') :
    ∃ W : Nat → Nat → Hp → Prop, (∃ m, W 0 m (upd H1 D (.lst []))) ∧ ∀ i m H, W i m H →
      ((Itt K a).stop i H ∧ Qd H) ∨ ((Itt K a).go i H ∧ ∃ Nx : Hp → Prop, (∀ H', Nx H' → ∃ m', m' < m ∧ W (i + 1) m' H') ∧ ∀ x H', (Itt K a).yld i H x H' → g x (wipe σ vs) H' fun σ2 H2 => wipe σ2 vs = wipe σ vs ∧ tYes σ2 H2 fun b H3 =>
        if b = true then te σ2 H3 fun y H4 => ∃ acc, H4 D = some (.lst acc) ∧ acc.length < sizeLine ∧ Nx (upd H4 D (.lst (acc ++ [y]))) else Nx H3) := by
  have hf := hpen.free hD
  have sq : ∀ i H', (But d H1 H' ∧ IsPen c H' d (k0 + st * i) ∧ ∃ l, H' D = some (.lst l)) → SqT K H' a xs := fun i H' h => Gr.t (hpen.gr h.1) hx
  refine lcG (fun i H' => But d H1 H' ∧ IsPen c H' d (k0 + st * i) ∧ ∃ l, H' D = some (.lst l)) R hz ⟨Same.but d (same_new hD), hpen.same (same_new hD), _, upd_same⟩ (fun i H' l l' h _ => ⟨but_mut h.1 hD, h.2.1.mut hf.1 hf.2, _, upd_same⟩) hR (fun i H hi h => ⟨xs, xs[i], sq i H h, by simp [hi]⟩) (fun H h => ⟨xs, sq _ H h, Nat.le_refl _⟩)
    (fun i x H' H'' hi h y Qk Nx k => ?_) (fun H' ws h e1 e2 e3 => hd H' ws h.1 h.2.1 e1 e2 e3)
  obtain ⟨rfl, y⟩ := y
  refine hs i x _ (y xs (sq i _ h)) h.1 h.2.1 Qk Nx fun v H3 b3 p3 r3 => ?_
  obtain ⟨l, hl⟩ := h.2.2
  have e := But.lst h.2.1 b3 hl
  exact k v H3 ⟨h.1.trans b3, p3, l, e⟩ (h.2.1.gr b3) (e.trans hl.symm) r3
/-- what the law needs of the sums: plain -/
def Laps : Prop := ∀ (row : List Rat) (s co : Int) (fs : List (List Rat × Nat)) (os : List (List Rat)) (bs : List Rat) (z : Nat), Plan row s co fs os → RowB 11 row → row.length ≤ 13 → bs.length ≤ 11 → (∀ q ∈ bs, QB 4 q) → z ≤ 2 →
  ∃ o1 o3 : Option Rat, NW (addQ bs row ++ List.replicate z 0) bs o1 ∧ Right row (decide (crossedOf fs = [] ∧ s = 1)) o1 ∧ NW bs (bs ++ [0, 0]) none ∧ NW bs (addQ bs row ++ List.replicate z 0) o3 ∧ Right (row.map fun q => -q) (decide (crossedOf fs = [] ∧ s = -1)) o3
def spLaw (K : PySem.W.Frag) : Sp := fun vs H Q _ => ∃ (a : Addr) (ns : List Int), vs = [.ref a] ∧ SqL K H a (ns.map V.int) ∧ ns.length ≤ 63 ∧ ∀ H', Q (.bl true) H'
theorem divInt_small {a b : Int} (h1 : a.natAbs ≤ 9) (h2 : 0 < b) (h3 : b ≤ 9) : QB 4 (Rat.divInt a b) := by
  have n1 := num_low (a := a) h2
  have n2 := den_low (a := a) h2
  have m1 := Int.natAbs_ediv_le_natAbs a ((Int.gcd a b : Nat) : Int)
  have m2 := Int.natAbs_ediv_le_natAbs b ((Int.gcd a b : Nat) : Int)
  rw [n1] at m1
  rw [n2] at m2
  exact ⟨by omega, by omega⟩
theorem paired_ex {R : V → Rat → Prop} : ∀ ws : List V, (∀ (i : Nat) v, ws[i]? = some v → ∃ x, R v x) → ∃ xs, Paired R ws xs
  | [], _ => ⟨[], .nil⟩
  | w :: ws, h => by
    obtain ⟨x, hx⟩ := h 0 w rfl
    obtain ⟨xs, hxs⟩ := paired_ex ws fun i v e => h (i + 1) v e
    exact ⟨x :: xs, .cons hx hxs⟩
theorem paired_mem_r {R : V → α → Prop} : ∀ {vs : List V} {xs : List α} {x : α}, Paired R vs xs → x ∈ xs → ∃ v, v ∈ vs ∧ R v x
  | _, _, _, .nil, h => by cases h
  | _, _, x, .cons r t, h => by
    rcases List.mem_cons.mp h with rfl | h
    · exact ⟨_, List.mem_cons_self, r⟩
    · obtain ⟨v, hv, hr⟩ := paired_mem_r t h
      exact ⟨v, List.mem_cons_of_mem _ hv, hr⟩
theorem mul_pow_lt {n m x y : Nat} (h : x < 2 ^ n) (k : y < 2 ^ m) : x * y < 2 ^ (n + m) := by
  rw [Nat.pow_add]
  exact Nat.mul_lt_mul'' h k
theorem qb_add {n m : Nat} {a b : Rat} (h : QB n a) (k : QB m b) : QB (n + m + 1) (a + b) := by
  have h1 := (bq_self a).up b.den a.den_pos b.den_pos
  have h2 := (bq_self b).up a.den b.den_pos a.den_pos
  rw [Nat.mul_comm b.den] at h2
  refine (BQ.add h1 h2).qb (Nat.mul_pos a.den_pos b.den_pos) ?_ ?_
  · have := mul_pow_lt h.2 k.2
    exact Nat.lt_trans this (Nat.pow_lt_pow_right (by decide) (by omega))
  · have e1 := mul_pow_lt h.1 k.2
    have e2 := mul_pow_lt k.1 h.2
    rw [Nat.add_comm m n] at e2
    rw [Nat.pow_succ]
    omega
theorem addQ_qb {n m j : Nat} {ps rs : List Rat} (h : ∀ q ∈ ps, QB n q) (k : ∀ q ∈ rs, QB m q) (hn : 0 < n) (hm : 0 < m) (hj : n + m + 1 ≤ j) : ∀ q ∈ addQ ps rs, QB j q := fun q hq => by
  have hp : ∀ {l : List Rat} {n t : Nat}, (∀ q ∈ l, QB n q) → 0 < n → ∀ q ∈ padded l t, QB n q := fun h hn q hq => by
    rcases List.mem_append.mp hq with hq | hq
    · exact h q hq
    · rw [List.eq_of_mem_replicate hq]
      exact qb_zero hn
  have hq := trimQ_mem hq
  obtain ⟨i, hi, e⟩ := List.mem_iff_getElem.mp hq
  rw [List.getElem_zipWith] at e
  rw [← e]
  exact qb_more (qb_add (hp h hn _ (List.getElem_mem _)) (hp k hm _ (List.getElem_mem _))) hj
theorem mul_tup {K : PySem.W.Frag} {H : Hp} {l : Addr} {x : V} {k : Int} {Q : VK} (h : SqT K H l [x]) (h0 : 0 ≤ k) (h2 : k ≤ 2) (q : ∀ p H', Same H H' → SqT K H' p (List.replicate k.toNat [x]).flatten → Q (.ref p) H') : rMulT K (.ref l) (.int k) H Q := by
  refine ⟨l, k, [x], rfl, rfl, h, by simp, by simp, h0, h2, fun e => ?_, fun _ p hp => q p _ (same_new hp) (.of upd_same)⟩
  refine q l H (Same.refl _) ?_
  rw [e]
  exact h
theorem cat_tup {K : PySem.W.Frag} {H : Hp} {a b : Addr} {xs ys : List V} {Q : VK} (h : SqT K H a xs) (k : SqT K H b ys) (hl : xs.length + ys.length ≤ sizeLine) (q : ∀ p H', Same H H' → SqT K H' p (xs ++ ys) → Q (.ref p) H') : rCatA K (.ref a) (.ref b) H Q := by
  refine ⟨a, b, xs, ys, rfl, rfl, h, k, hl, fun e => ?_, fun _ e => ?_, fun _ _ p hp => q p _ (same_new hp) (.of upd_same)⟩
  · refine q b H (Same.refl _) ?_
    rw [e]
    exact k
  · refine q a H (Same.refl _) ?_
    rw [e, List.append_nil]
    exact h
theorem flat_one {α : Type} (n : Nat) (x : α) : (List.replicate n [x]).flatten = List.replicate n x := by
  induction n with
  | zero => rfl
  | succ n ih => rw [List.replicate_succ, List.flatten_cons, ih, List.replicate_succ]; rfl
theorem isT_mono {K : PySem.W.Frag} {H H' : Hp} {v : V} {ps : List Rat} (e : Same H H') (h : IsT K (IsN K H) H v ps) : IsT K (IsN K H') H' v ps := by
  obtain ⟨a, vs, e1, h1, h2⟩ := h
  exact ⟨a, vs, e1, Same.t e h1, paired_mono h2 fun _ _ r => r.mono e⟩
section
variable {P : Program} {w : World} {K : PySem.W.Frag} {mg : Str → Option Value} {base : Heap}
theorem h_law (T : Txt K mg) (laps : Laps) {k : Nat} {f : Addr} {fd : FuncData} (F : Fun K "law" "law" s_law f fd)
    (G_L_pen : Has P w K mg base "_law_pen" ["_law_script"] k (sp_L_pen K)) (G_L_planted : Has P w K mg base "_law_planted" ["_law_pen_here"] k (sp_L_planted K)) (G_L_draw : Has P w K mg base "_law_draw" ["_law_pen_here", "_law_many"] k sp_L_draw) (G_L_q : Has P w K mg base "_law_q" ["_law_top", "_law_bottom"] k sp_L_q) (G_L_row_plus : Has P w K mg base "_law_row_plus" ["_law_one", "_law_two"] k (sp_L_row_plus K)) (G_L_passed : Has P w K mg base "_law_passed" ["_law_pen_here", "_law_ratio"] k (sp_L_passed K))
    (G_L_answer_right : Has P w K mg base "_law_answer_right" ["_law_one", "_law_two", "_law_row", "_law_due"] k (sp_L_answer_right K)) (G_never_worse : Has P w K mg base "never_worse" ["one", "two"] k (sp_never_worse K)) : FnOk P w K mg base CX0 (k + 1) f fd ["_law_script"] (spLaw K) := by
  refine F.ok sc_law (fun vs H Q E h => ?_) (fun cdv A outer s H vs Q E hr h => ?_)
  · obtain ⟨a, ns, rfl, _⟩ := h
    rfl
  · obtain ⟨a, ns, rfl, hA, hn, q⟩ := h
    refine ⟨_, (pss_cons (ps_set (i := 1) sc_law.nd rfl (.inr rfl) (pe_callH G_L_pen hr (by rfl) (pa_cons (pv 0) pa_nil))) (Evl.pss_cut (ps_for PassesOwn.never rfl (pi_range1 (by rfl) T.b_range (pa_cons pe_int pa_nil)) (pg_name (i := 2) sc_law.nd rfl (.inl rfl)) (pss_cons (ps_asg (pe_callH G_L_planted hr (by rfl) (pa_cons (pv 1) pa_nil)) (pg_tup rfl (pgs_cons (pg_name (i := 3) sc_law.nd rfl (.inl rfl)) (pgs_cons (pg_name (i := 4) sc_law.nd rfl (.inl rfl)) (pgs_cons (pg_name (i := 5) sc_law.nd rfl (.inl rfl)) pgs_nil))))) (pss_cons (ps_setLc (i := 6) (own := [("_law_k", 10)]) (g := (gName 10)) rfl sc_law.nd rfl rfl (sw_true rfl rfl rfl (by decide +kernel)) (pi_range1 (by rfl) T.b_range (pa_cons (pe_callH G_L_draw hr (by rfl) (pa_cons (pv 1) (pa_cons pe_int pa_nil))) pa_nil)) (blkOk_by (own := [("_law_k", 10)]) (N := ["_law_script", "_law_pen_here", "_law_lap", "_law_row", "_law_due", "_law_turned", "_law_base", "_law_one", "_law_two", "_law_back", "_law_k", "_law_number"]) (sc := defScope s_law) (by decide +kernel)) (fun _ _ _ _ _ => (pg_name (i := 10) sc_law.nd rfl (.inl rfl) (hf := .inr rfl))) (fun _ _ _ _ _ => pts_nil) (fun _ _ _ _ _ => (pe_callH G_L_q hr (by rfl) (pa_cons (pe_op op_sub (pe_callH G_L_draw hr (by rfl) (pa_cons (pv 1) (pa_cons pe_int pa_nil))) pe_int) (pa_cons (pe_op op_add pe_int (pe_callH G_L_draw hr (by rfl) (pa_cons (pv 1) (pa_cons pe_int pa_nil)))) pa_nil))))) (pss_cons (ps_par (i := 7) (j := 8) (by rfl) sc_law.nd rfl rfl (by decide) rfl rfl (pa_cons (pe_callH G_L_row_plus hr (by rfl) (pa_cons (pv 6) (pa_cons (pv 3) pa_nil))) (pa_cons (pe_callTy call_tuple_of (by rfl) T.b_tuple (by decide +kernel) (pa_cons (pv 6) pa_nil)) pa_nil)) (by rfl)) (pss_cons (ps_set (i := 7) sc_law.nd rfl (.inl rfl) (pe_op op_catA (pe_callTy call_tuple_of (by rfl) T.b_tuple (by decide +kernel) (pa_cons (pe_lc (own := [("_law_number", 11)]) (g := (gName 11)) rfl sc_law.nd (pi_tup (pv 7)) (blkOk_by (own := [("_law_number", 11)]) (N := ["_law_script", "_law_pen_here", "_law_lap", "_law_row", "_law_due", "_law_turned", "_law_base", "_law_one", "_law_two", "_law_back", "_law_k", "_law_number"]) (sc := defScope s_law) (by decide +kernel)) (fun _ _ _ _ _ => (pg_name (i := 11) sc_law.nd rfl (.inl rfl) (hf := .inr rfl))) (fun _ _ _ _ _ => pts_nil) (fun _ _ _ _ _ => (pe_callH G_L_passed hr (by rfl) (pa_cons (pv 1) (pa_cons (pv 11) pa_nil))))) pa_nil)) (pe_op op_mulT (pe_tup (pa_cons pe_int pa_nil)) (pe_callH G_L_draw hr (by rfl) (pa_cons (pv 1) (pa_cons pe_int pa_nil)))))) (Evl.pss_cut (ps_if (PW.pt (pw_or (pt_not (pt_val (pe_callH G_L_answer_right hr (by rfl) (pa_cons (pv 7) (pa_cons (pv 8) (pa_cons (pv 3) (pa_cons (pv 4) pa_nil))))))) (pw_or1 (pt_cmpR op_notN (pe_callH G_never_worse hr (by rfl) (pa_cons (pv 8) (pa_cons (pe_op op_catA (pv 8) (pe_tup (pa_cons pe_int (pa_cons (pe_tup (pa_cons pe_int (pa_cons pe_int pa_nil))) pa_nil)))) pa_nil))) pe_non (nomark _))))) (pss_one (ps_ret pe_bl)) pss_nil) (pss_cons (ps_set (i := 9) sc_law.nd rfl (.inl rfl) (pe_callTy call_tuple_of (by rfl) T.b_tuple (by decide +kernel) (pa_cons (pe_lc (own := [("_law_number", 11)]) (g := (gName 11)) rfl sc_law.nd (pi_tup (pv 3)) (blkOk_by (own := [("_law_number", 11)]) (N := ["_law_script", "_law_pen_here", "_law_lap", "_law_row", "_law_due", "_law_turned", "_law_base", "_law_one", "_law_two", "_law_back", "_law_k", "_law_number"]) (sc := defScope s_law) (by decide +kernel)) (fun _ _ _ _ _ => (pg_name (i := 11) sc_law.nd rfl (.inl rfl) (hf := .inr rfl))) (fun _ _ _ _ _ => pts_nil) (fun _ _ _ _ _ => (pe_tup (pa_cons (pe_un un_neg (pe_ix (ix_tupB (K := K) rfl) (pv 11) pe_int (fun _ _ => rfl))) (pa_cons (pe_ix (ix_tupB (K := K) rfl) (pv 11) pe_int (fun _ _ => rfl)) pa_nil))))) pa_nil))) (pss_one (ps_if (pt_not (pt_val (pe_callH G_L_answer_right hr (by rfl) (pa_cons (pv 8) (pa_cons (pv 7) (pa_cons (pv 9) (pa_cons (pv 5) pa_nil))))))) (pss_one (ps_ret pe_bl)) pss_nil))))))))) (pss_one (ps_ret pe_bl)))), ?_⟩
    refine ⟨_, rfl, a, ns, rfl, hA, hn, fun c d H1 s1 hd hpen => ?_⟩
    refine ⟨fun _ _ => True, ⟨3, rfl, by decide, by decide, for_range (lo := 0) (n := 3) (fun i σ H' => ∃ y2 y3 y4 y5 y6 y7 y8 y9 y10 y11, σ = [some (.ref a), some (.ref d), y2, y3, y4, y5, y6, y7, y8, y9, y10, y11] ∧ IsPen c H' d (100 * i))
      ⟨_, _, _, _, _, _, _, _, _, _, rfl, hpen⟩ (fun i σ H' hi h => ?_) (fun σ H' h => trivial)⟩, fun σ H' hM => q H'⟩
    obtain ⟨y2, y3, y4, y5, y6, y7, y8, y9, y10, y11, rfl, hp⟩ := h
    refine ⟨_, rfl, c, d, 100 * i, rfl, hp, by omega, fun p rv row sg co fs os H2 hplan hrb hrl ep hrow b2 hp2 => ?_⟩
    refine ⟨p, _, rfl, .of ep, rfl, _, _, rfl, _, _, rfl, _, _, rfl, rfl, ?_⟩
    have htp : SqT K H2 p [rv, .bl (decide (crossedOf fs = [] ∧ sg = 1)), .bl (decide (crossedOf fs = [] ∧ sg = -1))] := .of ep
    generalize hdu : decide (crossedOf fs = [] ∧ sg = 1) = due
    generalize htu : decide (crossedOf fs = [] ∧ sg = -1) = turned
    -- the base
    refine ⟨_, rfl, c, d, 12, 100 * i + 30, rfl, hp2, by decide, by omega, fun m H3 m0 m1 b3 hp3 => ?_⟩
    refine ⟨m, rfl, by omega, by omega, fun B hB => lcP (n := m.toNat) (c := c) (d := d) (k0 := 100 * i + 31) (st := 2) (fun _ v H' => ∃ x : Rat, QB 4 x ∧ IsQ K H' v x) (by omega) hp3 hB (fun _ v H H' g ⟨x, e, h⟩ => ⟨x, e, h.gr g⟩) (fun j H' hj bj hpj Qk Nx k => ?_) (fun H4 ws b4 hp4 hW hl hv => ?_)⟩
    · refine yesE rfl ?_
      refine ⟨_, rfl, c, d, 19, 100 * i + 31 + 2 * j, rfl, hpj, by decide, by omega, fun x1 H5 x10 x11 b5 hp5 => ?_⟩
      refine ⟨_, _, rfl, rfl, _, rfl, c, d, 9, 100 * i + 31 + 2 * j + 1, rfl, hp5, by decide, by omega, fun x2 H6 x20 x21 b6 hp6 => ?_⟩
      refine ⟨_, _, rfl, rfl, x1 - 9, 1 + x2, 4, rfl, by omega, by omega, by decide, fun pq H7 s7 hpq => ?_⟩
      have nd := divInt_small (a := x1 - 9) (b := 1 + x2) (by omega) (by omega) (by omega)
      exact k _ _ (b5.trans (b6.trans (Same.but d s7))) ((hp6.same s7).more (by omega)) ⟨_, nd, pq, rfl, .of hpq⟩
    -- row_plus
    have hmn : m.toNat ≤ 11 := by omega
    obtain ⟨bs, hPb, hbs⟩ : ∃ bs : List Rat, Paired (IsQ K H4) ws bs ∧ ∀ q ∈ bs, QB 4 q := by
      obtain ⟨bs, hbs⟩ := paired_ex (R := fun v x => QB 4 x ∧ IsQ K H4 v x) ws hv
      exact ⟨bs, paired_mono hbs fun _ _ r => r.2, fun q hq => by
        obtain ⟨v, _, h⟩ := paired_mem_r hbs hq
        exact h.1⟩
    have lbs : bs.length = m.toNat := by rw [← hPb.length, hl]
    have g34 := (hp2.gr b3).trans (hp3.gr b4)
    have hrow4 := hrow.gr g34
    have hrowB : ∀ q ∈ row, QB 400 q := by
      obtain ⟨D, M, hD, hR, hd, hm⟩ := hrb
      exact fun q hq => (hR q hq).qb hD (Nat.lt_of_le_of_lt hd (Nat.lt_trans (show 9 * 2 ^ 11 < 2 ^ 20 by decide) (Nat.pow_lt_pow_right (by decide) (by decide)))) (Nat.lt_of_le_of_lt hm (Nat.pow_lt_pow_right (by decide) (by decide)))
    refine ⟨_, rfl, _, rfl, .ref B, rv, bs, row, 4, 400, rfl, ⟨B, ws, rfl, hW, hPb⟩, hrow4, by omega, by omega, hbs, hrowB, by decide, by decide, by decide, fun ov H5 s5 ho => ?_⟩
    refine ⟨_, rfl, B, ws, rfl, .inl ⟨.of (s5 _ _ hW), fun tb htb => ?_⟩⟩
    have s6 := same_new (o := .tup ws) htb
    refine ⟨_, _, rfl, ?_⟩
    have s46 := s5.trans s6
    have hb6 : IsF K (upd H5 tb (.tup ws)) (.ref tb) bs := ⟨tb, ws, rfl, .of upd_same, pairedQ_mono s46 hPb⟩
    have hrow6 := hrow4.mono s46
    obtain ⟨oa, os', rfl, hoa, hPo⟩ := IsF.mono s6 ho
    have hp6 := hp4.same s46
    generalize upd H5 tb (.tup ws) = H6 at hb6 hrow6 hoa hPo hp6
    have los := hPo.length
    have lrow1 : (addQ bs row).length ≤ 13 := by
      refine Nat.le_trans (trimQ_len _) ?_
      rw [List.length_zipWith]
      unfold padded
      rw [List.length_append, List.length_append, List.length_replicate, List.length_replicate]
      omega
    have hqo : ∀ q ∈ addQ bs row, QB 29900 q := fun q hq => addQ_qb hbs hrowB (by decide) (by decide) (by decide) q hq
    -- the numbers, passed
    refine ⟨_, rfl, oa, rfl, ⟨_, hoa⟩, fun D hD => lcQ (xs := os') (c := c) (d := d) (k0 := 100 * i + 31 + 2 * m.toNat) (st := 2) (fun j v H' => ∃ x : Rat, (addQ bs row)[j]? = some x ∧ IsN K H' v x) (by omega) hp6 hD hoa (fun _ v H H' g ⟨x, e, h⟩ => ⟨x, e, h.gr g⟩) (fun j x H' hx bj hpj Qk Nx k => ?_) (fun H7 ns' b7 hp7 hN hln hvn => ?_)⟩
    · obtain ⟨r, er, hr'⟩ := paired_get hPo hx
      refine yesE rfl ?_
      have hjl := (List.getElem?_eq_some_iff.mp hx).1
      refine ⟨_, rfl, _, rfl, c, d, x, r, _, rfl, hpj, hr'.gr (hp6.gr bj), hqo r (List.mem_of_getElem? er), by omega, fun z H8 hz b8 hp8 => ?_⟩
      exact k _ _ b8 (hp8.more (by omega)) ⟨r, er, hz⟩
    have hPn : Paired (IsN K H7) ns' (addQ bs row) := paired_of (by rw [hln, los]) fun j v y e1 e2 => by
      obtain ⟨x, e3, h3⟩ := hvn j v e1
      rw [e2] at e3
      cases e3
      exact h3
    have hp7' : IsPen c H7 d (100 * i + 31 + 2 * m.toNat + 2 * 13) := hp7.more (by omega)
    refine ⟨D, ns', rfl, .inl ⟨.of hN, fun t1 ht1 => ?_⟩⟩
    have s8 := same_new (o := .tup ns') ht1
    refine ⟨by show 1 ≤ sizeLine; decide, fun z1 hz1 => ?_⟩
    have s9 := same_new (o := .tup [.int 0]) hz1
    have s89 := s8.trans s9
    have ht9 : SqT K (upd (upd H7 t1 (.tup ns')) z1 (.tup [.int 0])) t1 ns' := .of (s9 _ _ upd_same)
    have hz9 : SqT K (upd (upd H7 t1 (.tup ns')) z1 (.tup [.int 0])) z1 [.int 0] := .of upd_same
    refine ⟨_, rfl, c, d, 3, 100 * i + 31 + 2 * m.toNat + 2 * 13, rfl, hp7'.same s89, by decide, by omega, fun x H10 x0 x1 b10 hp10 => ?_⟩
    have g10 := (hp7'.same s89).gr b10
    refine mul_tup (Gr.t g10 hz9) x0 (by omega) fun z2 H11 s11 hz11 => ?_
    refine cat_tup (Same.t s11 (Gr.t g10 ht9)) hz11 (by
      rw [sizeLine_eq]
      simp only [List.length_flatten, List.map_replicate, List.length_cons, List.length_nil, List.sum_replicate_nat]
      omega) fun o H12 s12 ho => ?_
    -- one, two and the first answers
    rw [flat_one] at ho
    have s712 := s89
    have b712 : But d H7 H12 := (Same.but d s89).trans (b10.trans (Same.but d (s11.trans s12)))
    have g712 := hp7.gr b712
    have hp12 : IsPen c H12 d (100 * i + 100) := ((hp10.same s11).same s12).more (by omega)
    have g612 := (hp6.gr b7).trans g712
    have hone : IsT K (IsN K H12) H12 (.ref o) (addQ bs row ++ List.replicate x.toNat 0) := ⟨o, _, rfl, ho, paired_app (paired_mono hPn fun _ _ r => r.gr g712) (paired_of (by rw [List.length_replicate, List.length_replicate]) fun j v y e1 e2 => by
      have e3 := List.eq_of_mem_replicate (List.mem_of_getElem? e1)
      have e4 := List.eq_of_mem_replicate (List.mem_of_getElem? e2)
      subst e3 e4
      exact .int 0)⟩
    have htwoF := hb6.gr g612
    have htwo : IsT K (IsN K H12) H12 (.ref tb) bs := by
      obtain ⟨a', vs', e, h1, h2⟩ := htwoF
      exact ⟨a', vs', e, h1, paired_mono h2 fun _ _ r => r.n⟩
    have hrow12 := hrow6.gr g612
    obtain ⟨o1, o3, n1, r1, n2, n3, r3⟩ := laps row sg co fs os bs x.toNat hplan hrb hrl (by omega) hbs (by omega)
    rw [hdu] at r1
    rw [htu] at r3
    generalize addQ bs row ++ List.replicate x.toNat 0 = ps1 at hone n1 n3
    refine ⟨fun σ H' => (∃ y9 y10 y11, σ = [some (.ref a), some (.ref d), some (.int (0 + (i : Nat))), some rv, some (.bl due), some (.bl turned), some (.ref B), some (.ref o), some (.ref tb), y9, y10, y11]) ∧ Same H12 H', ?_, fun σ H13 hM => ?_⟩
    · refine ⟨_, rfl, _, rfl, _, rfl, _, rfl, .ref o, .ref tb, rv, ps1, bs, row, due, o1, rfl, hone, htwo, hrow12, n1, r1, fun H13 s13 => ?_⟩
      refine ⟨_, rfl, ?_⟩
      refine ifF rfl ?_
      refine ⟨_, rfl, _, rfl, by show 2 ≤ sizeLine; decide, fun z3 hz3 => ?_⟩
      have e1 := same_new (o := .tup [.int 0, .int 3]) hz3
      refine ⟨by show 2 ≤ sizeLine; decide, fun z4 hz4 => ?_⟩
      have e2 := same_new (o := .tup [.int 0, .ref z3]) hz4
      have e12 := s13.trans (e1.trans e2)
      obtain ⟨tb', us', etb, htb', hPu⟩ := isT_mono e12 htwo
      cases etb
      refine cat_tup htb' (.of upd_same) (by rw [hPu.length, sizeLine_eq]; show _ + 2 ≤ _; omega) fun o2 H14 s14 ho2 => ?_
      have hz3' : IsN K H14 (.ref z3) 0 := by
        have := IsN.pair (K := K) (H := H14) (p := z3) (a := 0) (b := 3) (Same.t s14 (.of (e2 _ _ upd_same))) (by decide)
        rw [Rat.zero_divInt] at this
        exact this
      refine ⟨.ref tb, .ref o2, bs, bs ++ [0, 0], none, rfl, isT_mono (e12.trans s14) htwo, ⟨o2, _, rfl, ho2, paired_app (paired_mono hPu fun _ _ r => r.mono s14) (.cons (.int 0) (.cons hz3' .nil))⟩, n2, fun v H15 s15 hv => ?_⟩
      have hv' : v = .non := hv
      subst hv'
      refine ⟨rfl, _, rfl, ?_⟩
      exact ifF rfl ⟨⟨_, _, _, rfl⟩, e12.trans (s14.trans s15)⟩
    · obtain ⟨⟨y9, y10, y11, rfl⟩, s1213⟩ := hM
      have hrow13 := hrow12.mono s1213
      obtain ⟨ra, rvs, rfl, hra, hPr⟩ := hrow13
      have lrv := hPr.length
      refine ⟨_, rfl, ra, rfl, ⟨_, hra⟩, fun D2 hD2 => lcT (xs := rvs) (fun j v H' => ∃ x : Rat, row[j]? = some x ∧ IsQ K H' v (-x)) (by omega) hD2 hra (fun _ v H H' g ⟨x, e, h⟩ => ⟨x, e, h.gr g⟩) (fun j x H' hx s4 Qk Nx k => ?_) (fun H14 bv s14 hB hlb hvb => ?_)⟩
      · obtain ⟨r, er, hr'⟩ := paired_get hPr hx
        obtain ⟨pr, rfl, htr⟩ := hr'.mono s4
        refine yesE rfl ?_
        refine ⟨_, rfl, pr, _, 0, _, rfl, rfl, htr, atI_nat (j := 0) rfl, _, rfl, _, rfl, pr, _, 1, _, rfl, rfl, htr, atI_nat (j := 1) rfl, by show 2 ≤ sizeLine; decide, fun p3 hp3 => ?_⟩
        have e3 := same_new (o := .tup [.int (-r.num), .int (r.den : Int)]) hp3
        refine k _ _ e3 ⟨r, er, p3, rfl, .of ?_⟩
        rw [Rat.neg_num, Rat.neg_den]
        exact upd_same
      have hPb' : Paired (IsQ K H14) bv (row.map fun q => -q) := paired_of (by rw [hlb, List.length_map, lrv]) fun j v y e1 e2 => by
        obtain ⟨x, e3, h3⟩ := hvb j v e1
        rw [List.getElem?_map, e3] at e2
        cases e2
        exact h3
      refine ⟨D2, bv, rfl, .inl ⟨.of hB, fun t3 ht3 => ?_⟩⟩
      have s15 := same_new (o := .tup bv) ht3
      have s125 := s1213.trans (s14.trans s15)
      refine ⟨_, rfl, _, rfl, _, rfl, _, rfl, .ref tb, .ref o, .ref t3, bs, ps1, row.map fun q => -q, turned, o3, rfl, isT_mono s125 htwo, isT_mono s125 hone, ⟨t3, bv, rfl, .of upd_same, pairedQ_mono s15 hPb'⟩, n3, r3, fun H16 s16 => ?_⟩
      refine ⟨_, rfl, ?_⟩
      refine ifF rfl ?_
      exact ⟨_, _, _, _, _, _, _, _, _, _, rfl, (hp12.same (s125.trans s16)).more (by omega)⟩
end
end Kq

set_option Elab.async false
set_option linter.all false
set_option maxRecDepth 100000
set_option maxHeartbeats 1000000
/-! the walks, put together -/
namespace Kq
open PySem PySem.Spec PyProof.Rows L2
section
variable {P : Program} {w : World} {K : PySem.W.Frag} {mg : Str → Option Value} {base : Heap}
theorem law_ok (T : Txt K mg) (B : BaseOk P base) (laps : Laps) {f : Addr} {fd : FuncData} (F : Fun K "law" "law" s_law f fd) : FnOk P w K mg base CX0 41 f fd ["_law_script"] (spLaw K) := by
  have G_is_whole := h_is_whole (P := P) (w := w) (K := K) (base := base) T (k := 32)
  have G_common := h_common (P := P) (w := w) (K := K) (base := base) T (k := 32)
  have G_lowest := h_lowest (P := P) (w := w) (K := K) (base := base) T B (k := 33) (by decide) (G_common.mono (by decide))
  have G_is_ratio := h_is_ratio (P := P) (w := w) (K := K) (base := base) T (k := 33) (G_is_whole.mono (by decide))
  have G_ratio_of := h_ratio_of (P := P) (w := w) (K := K) (base := base) T (k := 34) (G_is_ratio.mono (by decide)) (G_is_whole.mono (by decide)) (G_lowest.mono (by decide))
  have G_ratio_gap := h_ratio_gap (P := P) (w := w) (K := K) (base := base) T (k := 35) (G_lowest.mono (by decide)) (G_ratio_of.mono (by decide))
  have G_trimmed := h_trimmed (P := P) (w := w) (K := K) (base := base) T B (k := 33) (by decide) (G_common.mono (by decide))
  have G_slope_of := h_slope_of (P := P) (w := w) (K := K) (base := base) T (k := 34) (G_trimmed.mono (by decide))
  have G_whole_numbers := h_whole_numbers (P := P) (w := w) (K := K) (base := base) T B (k := 33) (by decide) (G_common.mono (by decide))
  have G_shared := h_shared (P := P) (w := w) (K := K) (base := base) T (k := 34) (G_trimmed.mono (by decide))
  have G_divisor_of_rows := h_divisor_of_rows (P := P) (w := w) (K := K) (base := base) T (k := 35) (G_shared.mono (by decide))
  have G_signs_at := h_signs_at (P := P) (w := w) (K := K) (base := base) T (k := 32)
  have G_single_zeros := h_single_zeros (P := P) (w := w) (K := K) (base := base) T (k := 36) (G_shared.mono (by decide)) (G_divisor_of_rows.mono (by decide)) (G_slope_of.mono (by decide))
  have G_remainders := h_remainders (P := P) (w := w) (K := K) (base := base) T (k := 35) (G_slope_of.mono (by decide)) (G_shared.mono (by decide))
  have G_changes := h_changes (P := P) (w := w) (K := K) (base := base) T (k := 33) (G_signs_at.mono (by decide))
  have G_cut_between := h_cut_between (P := P) (w := w) (K := K) (base := base) T (k := 34) (G_lowest.mono (by decide)) (G_signs_at.mono (by decide))
  have G_cuts_of := h_cuts_of (P := P) (w := w) (K := K) (base := base) T (k := 36) (G_remainders.mono (by decide)) (G_changes.mono (by decide)) (G_cut_between.mono (by decide))
  have G_never_below := h_never_below (P := P) (w := w) (K := K) (base := base) T (k := 37) (G_trimmed.mono (by decide)) (G_cuts_of.mono (by decide)) (G_whole_numbers.mono (by decide)) (G_single_zeros.mono (by decide)) (G_signs_at.mono (by decide)) (G_ratio_of.mono (by decide))
  have G_gap_sums := h_gap_sums (P := P) (w := w) (K := K) (base := base) T (k := 36) (G_ratio_gap.mono (by decide))
  have G_told_polynomial := h_told_polynomial (P := P) (w := w) (K := K) (base := base) T (k := 35) (G_is_ratio.mono (by decide)) (G_ratio_of.mono (by decide))
  have G_never_worse := h_never_worse (P := P) (w := w) (K := K) (base := base) T (k := 38) (G_never_below.mono (by decide)) (G_told_polynomial.mono (by decide)) (G_gap_sums.mono (by decide))
  have G_L_pen := h_L_pen (P := P) (w := w) (K := K) (base := base) T (k := 32)
  have G_L_draw := h_L_draw (P := P) (w := w) (K := K) (base := base) T B (k := 32) (by decide)
  have G_L_pick := h_L_pick (P := P) (w := w) (K := K) (base := base) T (k := 33) (G_L_draw.mono (by decide))
  have G_L_gcd := h_L_gcd (P := P) (w := w) (K := K) (base := base) T (k := 32)
  have G_L_q := h_L_q (P := P) (w := w) (K := K) (base := base) T B (k := 33) (by decide) (G_L_gcd.mono (by decide))
  have G_L_plus := h_L_plus (P := P) (w := w) (K := K) (base := base) T (k := 34) (G_L_q.mono (by decide))
  have G_L_by := h_L_by (P := P) (w := w) (K := K) (base := base) T (k := 34) (G_L_q.mono (by decide))
  have G_L_less := h_L_less (P := P) (w := w) (K := K) (base := base) T (k := 32)
  have G_L_is_whole := h_L_is_whole (P := P) (w := w) (K := K) (base := base) T (k := 32)
  have G_L_is_ratio := h_L_is_ratio (P := P) (w := w) (K := K) (base := base) T (k := 33) (G_L_is_whole.mono (by decide)) (G_L_gcd.mono (by decide))
  have G_L_passed := h_L_passed (P := P) (w := w) (K := K) (base := base) T (k := 33) (G_L_draw.mono (by decide))
  have G_L_trimmed := h_L_trimmed (P := P) (w := w) (K := K) (base := base) T (k := 32)
  have G_L_row_plus := h_L_row_plus (P := P) (w := w) (K := K) (base := base) T (k := 35) (G_L_trimmed.mono (by decide)) (G_L_plus.mono (by decide))
  have G_L_row_at := h_L_row_at (P := P) (w := w) (K := K) (base := base) T (k := 35) (G_L_plus.mono (by decide)) (G_L_by.mono (by decide))
  have G_L_row_times := h_L_row_times (P := P) (w := w) (K := K) (base := base) T (k := 35) (G_L_trimmed.mono (by decide)) (G_L_plus.mono (by decide)) (G_L_by.mono (by decide))
  have G_L_root_factor := h_L_root_factor (P := P) (w := w) (K := K) (base := base) T (k := 34) (G_L_pick.mono (by decide)) (G_L_draw.mono (by decide)) (G_L_q.mono (by decide))
  have G_L_planted := h_L_planted (P := P) (w := w) (K := K) (base := base) T (k := 36) (G_L_draw.mono (by decide)) (G_L_row_times.mono (by decide)) (G_L_root_factor.mono (by decide)) (G_L_pick.mono (by decide))
  have G_L_answer_right := h_L_answer_right (P := P) (w := w) (K := K) (base := base) T (k := 39) (G_never_worse.mono (by decide)) (G_L_is_ratio.mono (by decide)) (G_L_less.mono (by decide)) (G_L_row_at.mono (by decide))
  exact h_law T laps (k := 40) F (G_L_pen.mono (by decide)) (G_L_planted.mono (by decide)) (G_L_draw.mono (by decide)) (G_L_q.mono (by decide)) (G_L_row_plus.mono (by decide)) (G_L_passed.mono (by decide)) (G_L_answer_right.mono (by decide)) (G_never_worse.mono (by decide))
end
end Kq

set_option Elab.async false
set_option linter.all false
set_option maxRecDepth 100000
set_option maxHeartbeats 1000000
/-! polynomials, plain -/
namespace Kq
/-! ### rows as functions, with their slopes -/
def dv : List Rat → Rat → Rat
  | [], _ => 0
  | _ :: l, x => dv l x * x + evQ l x
theorem dv_cons (c : Rat) (l : List Rat) (x : Rat) : dv (c :: l) x = dv l x * x + evQ l x := rfl
theorem dv_nil (x : Rat) : dv [] x = 0 := rfl
def PD (f g : Rat → Rat) : Prop := ∃ l, ∀ x, f x = evQ l x ∧ g x = dv l x
def PF (f : Rat → Rat) : Prop := ∃ g, PD f g
theorem PD.pf {f g : Rat → Rat} (h : PD f g) : PF f := ⟨g, h⟩
theorem PD.congr {f g f' g' : Rat → Rat} (h : PD f g) (e : ∀ x, f' x = f x) (e' : ∀ x, g' x = g x) : PD f' g' := by
  obtain ⟨l, h⟩ := h
  exact ⟨l, fun x => ⟨(e x).trans (h x).1, (e' x).trans (h x).2⟩⟩
theorem PF.congr {f f' : Rat → Rat} (h : PF f) (e : ∀ x, f' x = f x) : PF f' := by
  obtain ⟨g, h⟩ := h
  exact ⟨g, h.congr e fun _ => rfl⟩
theorem pd_ev (l : List Rat) : PD (evQ l) (dv l) := ⟨l, fun _ => ⟨rfl, rfl⟩⟩
theorem pf_ev (l : List Rat) : PF (evQ l) := (pd_ev l).pf
theorem pd_const (c : Rat) : PD (fun _ => c) (fun _ => 0) := ⟨[c], fun x => ⟨by rw [evQ_cons, evQ_nil]; grind, by rw [dv_cons, dv_nil, evQ_nil]; grind⟩⟩
theorem pd_x : PD (fun x => x) (fun _ => 1) := ⟨[0, 1], fun x => ⟨by rw [evQ_cons, evQ_cons, evQ_nil]; grind, by rw [dv_cons, dv_cons, dv_nil, evQ_cons, evQ_nil]; grind⟩⟩
theorem pd_xmul {f g : Rat → Rat} (h : PD f g) : PD (fun x => f x * x) (fun x => g x * x + f x) := by
  obtain ⟨l, h⟩ := h
  exact ⟨0 :: l, fun x => ⟨by dsimp only; rw [evQ_cons, (h x).1]; grind, by dsimp only; rw [dv_cons, (h x).1, (h x).2]⟩⟩
def addL : List Rat → List Rat → List Rat
  | [], m => m
  | l, [] => l
  | a :: l, b :: m => (a + b) :: addL l m
theorem addL_ev : ∀ (l m : List Rat) (x : Rat), evQ (addL l m) x = evQ l x + evQ m x ∧ dv (addL l m) x = dv l x + dv m x
  | [], m, x => by simp only [addL, evQ_nil, dv_nil]; grind
  | a :: l, [], x => by simp only [addL, evQ_nil, dv_nil]; grind
  | a :: l, b :: m, x => by
    obtain ⟨h1, h2⟩ := addL_ev l m x
    simp only [addL, evQ_cons, dv_cons, h1, h2]
    grind
theorem smul_ev (c : Rat) : ∀ (l : List Rat) (x : Rat), evQ (l.map (c * ·)) x = c * evQ l x ∧ dv (l.map (c * ·)) x = c * dv l x
  | [], x => by simp only [List.map_nil, evQ_nil, dv_nil]; grind
  | a :: l, x => by
    obtain ⟨h1, h2⟩ := smul_ev c l x
    simp only [List.map_cons, evQ_cons, dv_cons, h1, h2]
    grind
theorem pd_add {f g f' g' : Rat → Rat} (h : PD f g) (k : PD f' g') : PD (fun x => f x + f' x) (fun x => g x + g' x) := by
  obtain ⟨l, h⟩ := h
  obtain ⟨m, k⟩ := k
  exact ⟨addL l m, fun x => ⟨by dsimp only; rw [(addL_ev l m x).1, (h x).1, (k x).1], by dsimp only; rw [(addL_ev l m x).2, (h x).2, (k x).2]⟩⟩
theorem pd_smul {f g : Rat → Rat} (c : Rat) (h : PD f g) : PD (fun x => c * f x) (fun x => c * g x) := by
  obtain ⟨l, h⟩ := h
  exact ⟨l.map (c * ·), fun x => ⟨by dsimp only; rw [(smul_ev c l x).1, (h x).1], by dsimp only; rw [(smul_ev c l x).2, (h x).2]⟩⟩
theorem pd_mul_l : ∀ (l : List Rat) {f g : Rat → Rat}, PD f g → PD (fun x => evQ l x * f x) (fun x => dv l x * f x + evQ l x * g x)
  | [], f, g, h => (pd_const 0).congr (fun x => by rw [evQ_nil]; grind) (fun x => by rw [evQ_nil, dv_nil]; grind)
  | c :: l, f, g, h => (pd_add (pd_xmul (pd_mul_l l h)) (pd_smul c h)).congr (fun x => by rw [evQ_cons]; grind) (fun x => by rw [evQ_cons, dv_cons]; grind)
theorem pd_mul {f g f' g' : Rat → Rat} (h : PD f g) (k : PD f' g') : PD (fun x => f x * f' x) (fun x => g x * f' x + f x * g' x) := by
  obtain ⟨l, h⟩ := h
  exact (pd_mul_l l k).congr (fun x => by rw [(h x).1]) (fun x => by rw [(h x).1, (h x).2])
theorem pf_const (c : Rat) : PF fun _ => c := (pd_const c).pf
theorem pf_x : PF fun x => x := pd_x.pf
theorem PF.add {f g : Rat → Rat} (h : PF f) (k : PF g) : PF fun x => f x + g x := by
  obtain ⟨_, h⟩ := h
  obtain ⟨_, k⟩ := k
  exact (pd_add h k).pf
theorem PF.mul {f g : Rat → Rat} (h : PF f) (k : PF g) : PF fun x => f x * g x := by
  obtain ⟨_, h⟩ := h
  obtain ⟨_, k⟩ := k
  exact (pd_mul h k).pf
theorem PF.smul {f : Rat → Rat} (c : Rat) (h : PF f) : PF fun x => c * f x := by
  obtain ⟨_, h⟩ := h
  exact (pd_smul c h).pf
theorem PF.sub {f g : Rat → Rat} (h : PF f) (k : PF g) : PF fun x => f x - g x := (h.add (k.smul (-1))).congr fun x => by grind
theorem dv_pf : ∀ l, PF (dv l)
  | [] => pf_const 0
  | c :: l => ((dv_pf l).mul pf_x).add (pf_ev l)
theorem PD.pf' {f g : Rat → Rat} (h : PD f g) : PF g := by
  obtain ⟨l, h⟩ := h
  exact (dv_pf l).congr fun x => (h x).2
/-! ### growth -/
theorem ev_zero : ∀ {l : List Rat}, (∀ c ∈ l, c = 0) → ∀ {x : Rat}, evQ l x = 0
  | [], _, _ => rfl
  | c :: l, h, x => by
    rw [evQ_cons, ev_zero (fun d hd => h d (List.mem_cons_of_mem _ hd)), h c List.mem_cons_self]
    grind
theorem dv_zero : ∀ {l : List Rat}, (∀ c ∈ l, c = 0) → ∀ {x : Rat}, dv l x = 0
  | [], _, _ => rfl
  | c :: l, h, x => by
    rw [dv_cons, dv_zero (fun d hd => h d (List.mem_cons_of_mem _ hd)), ev_zero (fun d hd => h d (List.mem_cons_of_mem _ hd))]
    grind
def Far (a y : Rat) : Prop := a ≤ y ∨ y ≤ -a
theorem far_mul {a y x : Rat} (ha : 0 < a) (h : Far a y) (hx : 0 ≤ x) : Far (a * x) (y * x) := by
  rcases h with h | h
  · exact .inl (Rat.mul_le_mul_of_nonneg_right h hx)
  · refine .inr ?_
    have := Rat.mul_le_mul_of_nonneg_right h hx
    grind
theorem div_nn {a b : Rat} (ha : 0 ≤ a) (hb : 0 < b) : 0 ≤ a / b := Rat.not_lt.mp fun h => by
  have := (Rat.div_lt_iff hb).mp h
  grind
theorem far_step {a b c y x : Rat} (ha : 0 < a) (h : Far a y) (hx : 0 ≤ x) (hb : b + c ≤ a * x) (hb2 : b - c ≤ a * x) : Far b (y * x + c) := by
  have := far_mul ha h hx
  unfold Far at *
  grind
def absR (x : Rat) : Rat := if 0 ≤ x then x else -x
theorem absR_le (x : Rat) : x ≤ absR x ∧ -x ≤ absR x ∧ 0 ≤ absR x := by
  unfold absR
  grind
theorem grow1 {m : List Rat} {a N : Rat} (ha : 0 < a) (h : ∀ x, N ≤ x → Far a (evQ m x)) (c b : Rat) : ∃ N', ∀ x, N' ≤ x → Far b (evQ (c :: m) x) := by
  refine ⟨absR N + (absR b + absR c) / a, fun x hx => ?_⟩
  have h1 := absR_le N
  have h2 := absR_le b
  have h3 := absR_le c
  have h4 : 0 ≤ (absR b + absR c) / a := div_nn (by grind) (by grind)
  have h5 : a * ((absR b + absR c) / a) = absR b + absR c := by grind
  have h6 : a * ((absR b + absR c) / a) ≤ a * x := Rat.mul_le_mul_of_nonneg_left (by grind) (by grind)
  rw [evQ_cons]
  exact far_step ha (h x (by grind)) (by grind) (by grind) (by grind)
theorem grow : ∀ l : List Rat, (∀ c ∈ l, c = 0) ∨ ∃ a N : Rat, 0 < a ∧ ∀ x, N ≤ x → Far a (evQ l x)
  | [] => .inl fun c h => by cases h
  | c :: l => by
    rcases grow l with h | ⟨a, N, ha, h⟩
    · by_cases hc : c = 0
      · exact .inl fun d hd => (List.mem_cons.mp hd).elim (fun e => e.trans hc) (h d)
      · refine .inr ⟨absR c, 0, ?_, fun x hx => ?_⟩
        · unfold absR; grind
        · rw [evQ_cons, ev_zero h]
          unfold Far absR
          grind
    · obtain ⟨N', h'⟩ := grow1 ha h c 1
      exact .inr ⟨1, N', by grind, h'⟩
/-- a row that is zero far out is all zeros -/
theorem ev_id {l : List Rat} {N : Rat} (h : ∀ x, N ≤ x → evQ l x = 0) : ∀ c ∈ l, c = 0 := by
  rcases grow l with g | ⟨a, M, ha, g⟩
  · exact g
  · have h1 := absR_le N
    have h2 := absR_le M
    have h3 := g (absR N + absR M) (by grind)
    rw [h _ (by grind)] at h3
    unfold Far at h3
    exact absurd h3 (by grind)
theorem PF.zero_of {f : Rat → Rat} (h : PF f) {N : Rat} (z : ∀ x, N ≤ x → f x = 0) (x : Rat) : f x = 0 := by
  obtain ⟨g, l, h⟩ := h
  rw [(h x).1]
  exact ev_zero (ev_id (N := N) fun y hy => by rw [← (h y).1]; exact z y hy)
/-- zero, or far from zero far out -/
theorem PF.far {f : Rat → Rat} (h : PF f) : (∀ x, f x = 0) ∨ ∃ a N : Rat, 0 < a ∧ ∀ x, N ≤ x → Far a (f x) := by
  obtain ⟨g, l, h⟩ := h
  rcases grow l with k | ⟨a, N, ha, k⟩
  · exact .inl fun x => by rw [(h x).1]; exact ev_zero k
  · exact .inr ⟨a, N, ha, fun x hx => by rw [(h x).1]; exact k x hx⟩
/-- constant, or beyond all bounds -/
theorem PF.far2 {f : Rat → Rat} (h : PF f) : (∃ c, ∀ x, f x = c) ∨ ∀ b : Rat, ∃ N, ∀ x, N ≤ x → Far b (f x) := by
  obtain ⟨g, l, h⟩ := h
  cases l with
  | nil => exact .inl ⟨0, fun x => (h x).1⟩
  | cons c l =>
    rcases grow l with k | ⟨a, N, ha, k⟩
    · exact .inl ⟨c, fun x => by rw [(h x).1, evQ_cons, ev_zero k]; grind⟩
    · refine .inr fun b => ?_
      obtain ⟨N', k'⟩ := grow1 ha k c b
      exact ⟨N', fun x hx => by rw [(h x).1]; exact k' x hx⟩
theorem PF.cancel {f g h : Rat → Rat} (hf : PF f) (hg : PF g) (hh : PF h) (nz : ¬ ∀ x, f x = 0) (e : ∀ x, f x * g x = f x * h x) (x : Rat) : g x = h x := by
  rcases hf.far with k | ⟨a, N, ha, k⟩
  · exact absurd k nz
  · have := (hg.sub hh).zero_of (N := N) (fun y hy => by
      have h1 := k y hy
      have h2 := e y
      have h3 : f y ≠ 0 := fun z => by
        rw [z] at h1
        unfold Far at h1
        exact absurd h1 (by grind)
      grind) x
    grind
theorem far_prod {a b y z : Rat} (ha : 0 < a) (hb : 0 ≤ b) (h : Far a y) (k : Far b z) : Far (a * b) (y * z) := by
  rcases k with k | k
  · have h1 := far_mul ha h (show 0 ≤ z by grind)
    have h2 := Rat.mul_le_mul_of_nonneg_left k (Rat.le_of_lt ha)
    unfold Far at *
    grind
  · have h1 := far_mul ha h (show 0 ≤ -z by grind)
    have h2 := Rat.mul_le_mul_of_nonneg_left (show b ≤ -z by grind) (Rat.le_of_lt ha)
    unfold Far at *
    grind
/-- a unit is a constant -/
theorem PF.unit {f g : Rat → Rat} (hf : PF f) (hg : PF g) {c : Rat} (hc : c ≠ 0) (e : ∀ x, f x * g x = c) : ∃ k, k ≠ 0 ∧ ∀ x, f x = k := by
  rcases hf.far2 with ⟨k, h⟩ | h
  · refine ⟨k, fun z => hc ?_, h⟩
    have := e 0
    rw [h, z] at this
    grind
  · rcases hg.far with k | ⟨a, N, ha, k⟩
    · exact absurd (e 0) (by rw [k]; grind)
    · obtain ⟨M, h⟩ := h ((absR c + 1) / a)
      have a0 := absR_le c
      have a1 := absR_le N
      have a2 := absR_le M
      have h0 : 0 ≤ (absR c + 1) / a := div_nn (by grind) ha
      have h1 := far_prod ha h0 (k (absR N + absR M) (by grind)) (h (absR N + absR M) (by grind))
      have h2 := e (absR N + absR M)
      have h3 : a * ((absR c + 1) / a) = absR c + 1 := by grind
      rw [h3] at h1
      unfold Far at h1
      exact absurd h1 (by grind)
/-- two rows with the same values: the same places -/
theorem ev_getD {l m : List Rat} (h : ∀ x, evQ l x = evQ m x) (i : Nat) : l.getD i 0 = m.getD i 0 := by
  have h1 : ∀ c ∈ addL l (m.map ((-1) * ·)), c = 0 := ev_id (N := 0) fun x _ => by
    rw [(addL_ev _ _ x).1, (smul_ev _ _ x).1, h x]
    grind
  have h2 : ∀ (l m : List Rat) (i : Nat), (addL l m).getD i 0 = l.getD i 0 + m.getD i 0 := by
    intro l
    induction l with
    | nil => intro m i; simp only [addL]; simp only [List.getD_nil]; grind
    | cons a l ih =>
      intro m i
      cases m with
      | nil => simp only [addL, List.getD_nil]; grind
      | cons b m =>
        cases i with
        | zero => simp [addL]
        | succ i => simpa [addL] using ih m i
  have h3 := h2 l (m.map ((-1) * ·)) i
  have h4 : (addL l (m.map ((-1) * ·))).getD i 0 = 0 := by
    rw [List.getD_eq_getElem?_getD]
    cases e : (addL l (m.map ((-1) * ·)))[i]? with
    | none => rfl
    | some c => exact h1 c (List.mem_of_getElem? e)
  have h5 : (m.map ((-1) * ·)).getD i 0 = -1 * m.getD i 0 := by
    rw [List.getD_eq_getElem?_getD, List.getD_eq_getElem?_getD, List.getElem?_map]
    cases m[i]? with
    | none => simp
    | some c => rfl
  rw [h4, h5] at h3
  grind
/-- a slope is one -/
theorem pd_uniq {f g g' : Rat → Rat} (h : PD f g) (k : PD f g') (x : Rat) : g x = g' x := by
  obtain ⟨l, h⟩ := h
  obtain ⟨m, k⟩ := k
  have h1 : ∀ c ∈ addL l (m.map ((-1) * ·)), c = 0 := ev_id (N := 0) fun x _ => by
    rw [(addL_ev _ _ x).1, (smul_ev _ _ x).1, ← (h x).1, ← (k x).1]
    grind
  have h2 := dv_zero h1 (x := x)
  rw [(addL_ev _ _ x).2, (smul_ev _ _ x).2, ← (h x).2, ← (k x).2] at h2
  grind
end Kq

set_option Elab.async false
set_option linter.all false
set_option maxRecDepth 100000
set_option maxHeartbeats 1000000
/-! polynomials without a shared factor; how they move between 0 and 1 -/
namespace Kq
def Cop (a b : Rat → Rat) : Prop := ∃ u v, PF u ∧ PF v ∧ ∀ x, u x * a x + v x * b x = 1
theorem Cop.symm {a b : Rat → Rat} (h : Cop a b) : Cop b a := by
  obtain ⟨u, v, hu, hv, h⟩ := h
  exact ⟨v, u, hv, hu, fun x => by have := h x; grind⟩
theorem Cop.mul {a b c : Rat → Rat} (ha : PF a) (hb : PF b) (hc : PF c) (h : Cop a b) (k : Cop a c) : Cop a fun x => b x * c x := by
  obtain ⟨u, v, hu, hv, h⟩ := h
  obtain ⟨u', v', hu', hv', k⟩ := k
  refine ⟨fun x => u x * u' x * a x + u x * v' x * c x + v x * b x * u' x, fun x => v x * v' x, (((hu.mul hu').mul ha).add ((hu.mul hv').mul hc)).add ((hv.mul hb).mul hu'), hv.mul hv', fun x => ?_⟩
  have h1 := h x
  have h2 := k x
  have h3 : (u x * a x + v x * b x) * (u' x * a x + v' x * c x) = 1 := by rw [h1, h2]; grind
  grind
theorem Cop.add {a b c : Rat → Rat} (hc : PF c) (h : Cop a b) : Cop a fun x => b x + c x * a x := by
  obtain ⟨u, v, hu, hv, h⟩ := h
  refine ⟨fun x => u x - v x * c x, v, hu.sub (hv.mul hc), hv, fun x => ?_⟩
  have h1 := h x
  grind
theorem Cop.congr {a b a' b' : Rat → Rat} (h : Cop a b) (e : ∀ x, a' x = a x) (e' : ∀ x, b' x = b x) : Cop a' b' := by
  obtain ⟨u, v, hu, hv, h⟩ := h
  exact ⟨u, v, hu, hv, fun x => by rw [e, e']; exact h x⟩
theorem Cop.smul {a b : Rat → Rat} {k : Rat} (hk : k ≠ 0) (h : Cop a b) : Cop a fun x => k * b x := by
  obtain ⟨u, v, hu, hv, h⟩ := h
  refine ⟨u, fun x => k⁻¹ * v x, hu, hv.smul _, fun x => ?_⟩
  have h1 := h x
  grind
theorem cop_one (a : Rat → Rat) : Cop a fun _ => 1 := ⟨fun _ => 0, fun _ => 1, pf_const 0, pf_const 1, fun x => by grind⟩
/-! ### products of powers -/
def pwr (y : Rat) : Nat → Rat
  | 0 => 1
  | n + 1 => pwr y n * y
abbrev Fac := List Rat × Nat
def Pf : List Fac → Rat → Rat
  | [], _ => 1
  | p :: gs, x => evQ p.1 x * Pf gs x
def Hf : List Fac → Rat → Rat
  | [], _ => 0
  | p :: gs, x => (p.2 : Rat) * dv p.1 x * Pf gs x + evQ p.1 x * Hf gs x
def Df : List Fac → Rat → Rat
  | [], _ => 1
  | p :: gs, x => pwr (evQ p.1 x) (p.2 - 1) * Df gs x
def Ff : List Fac → Rat → Rat
  | [], _ => 1
  | p :: gs, x => pwr (evQ p.1 x) p.2 * Ff gs x
def Dist : List Fac → Prop
  | [] => True
  | p :: gs => 1 ≤ p.2 ∧ Cop (evQ p.1) (dv p.1) ∧ (∀ q ∈ gs, Cop (evQ p.1) (evQ q.1)) ∧ Dist gs
theorem pd_pwr {f g : Rat → Rat} (h : PD f g) : ∀ n, PD (fun x => pwr (f x) n) (fun x => (n : Rat) * pwr (f x) (n - 1) * g x)
  | 0 => (pd_const 1).congr (fun x => rfl) (fun x => by simp)
  | n + 1 => by
    refine (pd_mul (pd_pwr h n) h).congr (fun x => rfl) (fun x => ?_)
    have e : ((n + 1 : Nat) : Rat) = (n : Rat) + 1 := by simp
    rw [e, Nat.add_sub_cancel]
    cases n with
    | zero => simp [pwr]; grind
    | succ m =>
      rw [Nat.add_sub_cancel]
      show _ = ((m + 1 : Nat) : Rat) * pwr (f x) m * g x * f x + pwr (f x) m * f x * g x
      show (((m + 1 : Nat) : Rat) + 1) * (pwr (f x) m * f x) * g x = _
      grind
theorem pf_Pf : ∀ gs, PF (Pf gs)
  | [] => pf_const 1
  | p :: gs => (pf_ev p.1).mul (pf_Pf gs)
theorem pf_Hf : ∀ gs, PF (Hf gs)
  | [] => pf_const 0
  | p :: gs => (((dv_pf p.1).smul p.2).mul (pf_Pf gs)).add ((pf_ev p.1).mul (pf_Hf gs))
theorem pf_Df : ∀ gs, PF (Df gs)
  | [] => pf_const 1
  | p :: gs => (pd_pwr (pd_ev p.1) _).pf.mul (pf_Df gs)
theorem Ff_eq : ∀ {gs}, Dist gs → ∀ x, Ff gs x = Df gs x * Pf gs x
  | [], _, x => by simp [Ff, Df, Pf]
  | p :: gs, h, x => by
    obtain ⟨h1, _, _, h2⟩ := h
    show pwr (evQ p.1 x) p.2 * Ff gs x = pwr (evQ p.1 x) (p.2 - 1) * Df gs x * (evQ p.1 x * Pf gs x)
    rw [Ff_eq h2 x]
    obtain ⟨n, hn⟩ : ∃ n, p.2 = n + 1 := ⟨p.2 - 1, by omega⟩
    rw [hn, Nat.add_sub_cancel]
    show pwr (evQ p.1 x) n * evQ p.1 x * _ = _
    grind
theorem Ff_pd : ∀ {gs}, Dist gs → PD (Ff gs) fun x => Df gs x * Hf gs x
  | [], _ => (pd_const 1).congr (fun x => rfl) (fun x => by simp [Df, Hf])
  | p :: gs, h => by
    obtain ⟨h1, _, _, h2⟩ := h
    refine (pd_mul (pd_pwr (pd_ev p.1) p.2) (Ff_pd h2)).congr (fun x => rfl) (fun x => ?_)
    show pwr (evQ p.1 x) (p.2 - 1) * Df gs x * ((p.2 : Rat) * dv p.1 x * Pf gs x + evQ p.1 x * Hf gs x) = (p.2 : Rat) * pwr (evQ p.1 x) (p.2 - 1) * dv p.1 x * Ff gs x + pwr (evQ p.1 x) p.2 * (Df gs x * Hf gs x)
    rw [Ff_eq h2 x]
    obtain ⟨n, hn⟩ : ∃ n, p.2 = n + 1 := ⟨p.2 - 1, by omega⟩
    have e : pwr (evQ p.1 x) p.2 = pwr (evQ p.1 x) (p.2 - 1) * evQ p.1 x := by rw [hn, Nat.add_sub_cancel]; rfl
    rw [e]
    grind
theorem cop_P {g : Rat → Rat} (hg : PF g) : ∀ {gs : List Fac}, (∀ q ∈ gs, Cop g (evQ q.1)) → Cop g (Pf gs)
  | [], _ => cop_one g
  | p :: gs, h => Cop.mul hg (pf_ev _) (pf_Pf gs) (h p List.mem_cons_self) (cop_P hg fun q hq => h q (List.mem_cons_of_mem _ hq))
theorem cop_PH : ∀ {gs}, Dist gs → Cop (Pf gs) (Hf gs)
  | [], _ => (cop_one (fun _ => 0)).symm
  | p :: gs, h => by
    obtain ⟨h1, h2, h3, h4⟩ := h
    have c1 := cop_P (pf_ev p.1) h3
    have c2 := cop_PH h4
    have hm : (p.2 : Rat) ≠ 0 := fun z => by
      have : p.2 = 0 := Rat.natCast_eq_zero_iff.mp z
      omega
    have a1 : Cop (evQ p.1) (Hf (p :: gs)) := ((Cop.mul (pf_ev _) ((dv_pf p.1).smul p.2) (pf_Pf gs) (h2.smul hm) c1).add (pf_Hf gs)).congr (fun _ => rfl) (fun x => by
      show (p.2 : Rat) * dv p.1 x * Pf gs x + evQ p.1 x * Hf gs x = _
      grind)
    have a2 : Cop (Pf gs) (Hf (p :: gs)) := ((Cop.mul (pf_Pf gs) (pf_ev _) (pf_Hf gs) c1.symm c2).add ((dv_pf p.1).smul p.2)).congr (fun _ => rfl) (fun x => by
      show (p.2 : Rat) * dv p.1 x * Pf gs x + evQ p.1 x * Hf gs x = _
      grind)
    exact (Cop.mul (pf_Hf _) (pf_ev p.1) (pf_Pf gs) a1.symm a2.symm).symm
/-- the part that is left when the shared divisor is gone -/
theorem gcd_is {gs : List Fac} (hd : Dist gs) {c : Rat} (hc : c ≠ 0) {F F' d q q2 A B : Rat → Rat} (hF : ∀ x, F x = c * Ff gs x) (hF' : PD F F') (pd : PF d) (pq : PF q) (pq2 : PF q2) (pA : PF A) (pB : PF B)
    (nz : ¬ ∀ x, F x = 0) (e1 : ∀ x, F x = d x * q x) (e2 : ∀ x, F' x = d x * q2 x) (e3 : ∀ x, A x * F x + B x * F' x = d x) : ∃ k, k ≠ 0 ∧ ∀ x, q x = k * Pf gs x := by
  have f' : ∀ x, F' x = c * (Df gs x * Hf gs x) := fun x => pd_uniq hF' ((pd_smul c (Ff_pd hd)).congr hF fun _ => rfl) x
  have ff : ∀ x, F x = c * (Df gs x * Pf gs x) := fun x => by rw [hF, Ff_eq hd]
  obtain ⟨u, v, hu, hv, huv⟩ := cop_PH hd
  have nD : ¬ ∀ x, Df gs x = 0 := fun z => nz fun x => by rw [ff, z]; grind
  have nd : ¬ ∀ x, d x = 0 := fun z => nz fun x => by rw [e1, z]; grind
  have e4 : ∀ x, c * Df gs x = d x * (u x * q x + v x * q2 x) := fun x => by
    have a1 := ff x
    have a2 := f' x
    have a3 := e1 x
    have a4 := e2 x
    have a5 := huv x
    have : c * Df gs x = u x * F x + v x * F' x := by rw [a1, a2]; grind
    rw [this, a3, a4]
    grind
  have e5 : ∀ x, d x = c * Df gs x * (A x * Pf gs x + B x * Hf gs x) := fun x => by
    have a1 := ff x
    have a2 := f' x
    have a3 := e3 x
    rw [a1, a2] at a3
    rw [← a3]
    grind
  have e6 : ∀ x, (u x * q x + v x * q2 x) * (A x * Pf gs x + B x * Hf gs x) = 1 := fun x => by
    refine PF.cancel (f := fun x => c * Df gs x) ((pf_Df gs).smul c) ((((hu.mul pq).add (hv.mul pq2))).mul ((pA.mul (pf_Pf gs)).add (pB.mul (pf_Hf gs)))) (pf_const 1) (fun z => nD fun y => ?_) (fun y => ?_) x
    · have := z y
      grind
    · have a1 := e4 y
      have a2 := e5 y
      rw [a2] at a1
      grind
  obtain ⟨k, hk, hkk⟩ := PF.unit ((hu.mul pq).add (hv.mul pq2)) ((pA.mul (pf_Pf gs)).add (pB.mul (pf_Hf gs))) (by decide : (1 : Rat) ≠ 0) e6
  refine ⟨k, hk, fun x => PF.cancel pd pq ((pf_Pf gs).smul k) nd (fun y => ?_) x⟩
  have a1 := e4 y
  have a2 := e1 y
  have a3 := ff y
  have a4 := hkk y
  rw [a4] at a1
  grind
/-! ### between 0 and 1 -/
def Ab (y b : Rat) : Prop := -b ≤ y ∧ y ≤ b
theorem Ab.add {y z b c : Rat} (h : Ab y b) (k : Ab z c) : Ab (y + z) (b + c) := by
  unfold Ab at *
  grind
theorem Ab.mono {y b c : Rat} (h : Ab y b) (l : b ≤ c) : Ab y c := by
  unfold Ab at *
  grind
theorem Ab.nn {y b : Rat} (h : Ab y b) : 0 ≤ b := by
  unfold Ab at h
  grind
theorem Ab.mul {y z b c : Rat} (h : Ab y b) (k : Ab z c) : Ab (y * z) (b * c) := by
  have hb := h.nn
  have hc := k.nn
  have h1 := Rat.mul_nonneg (show 0 ≤ b - y by have := h.2; grind) (show 0 ≤ c - z by have := k.2; grind)
  have h2 := Rat.mul_nonneg (show 0 ≤ b + y by have := h.1; grind) (show 0 ≤ c + z by have := k.1; grind)
  have h3 := Rat.mul_nonneg (show 0 ≤ b - y by have := h.2; grind) (show 0 ≤ c + z by have := k.1; grind)
  have h4 := Rat.mul_nonneg (show 0 ≤ b + y by have := h.1; grind) (show 0 ≤ c - z by have := k.2; grind)
  unfold Ab
  constructor <;> grind
theorem ab_abs (y : Rat) : Ab y (absR y) := by
  have := absR_le y
  unfold Ab
  grind
theorem ab_unit {x : Rat} (h0 : 0 ≤ x) (h1 : x ≤ 1) : Ab x 1 := by
  unfold Ab
  grind
theorem ev_bdd : ∀ l : List Rat, ∃ b, ∀ x, 0 ≤ x → x ≤ 1 → Ab (evQ l x) b
  | [] => ⟨0, fun x _ _ => by rw [evQ_nil]; unfold Ab; grind⟩
  | c :: l => by
    obtain ⟨b, h⟩ := ev_bdd l
    refine ⟨b * 1 + absR c, fun x h0 h1 => ?_⟩
    rw [evQ_cons]
    exact ((h x h0 h1).mul (ab_unit h0 h1)).add (ab_abs c)
theorem PF.bdd {f : Rat → Rat} (h : PF f) : ∃ b, 0 < b ∧ ∀ x, 0 ≤ x → x ≤ 1 → Ab (f x) b := by
  obtain ⟨g, l, h⟩ := h
  obtain ⟨b, k⟩ := ev_bdd l
  refine ⟨absR b + 1, by have := absR_le b; grind, fun x h0 h1 => ?_⟩
  rw [(h x).1]
  exact (k x h0 h1).mono (by have := absR_le b; grind)
theorem ev_lip : ∀ l : List Rat, ∃ b, ∀ x y, 0 ≤ x → x ≤ y → y ≤ 1 → Ab (evQ l y - evQ l x) (b * (y - x))
  | [] => ⟨0, fun x y _ _ _ => by rw [evQ_nil, evQ_nil]; unfold Ab; grind⟩
  | c :: l => by
    obtain ⟨b, h⟩ := ev_lip l
    obtain ⟨a, k⟩ := ev_bdd l
    refine ⟨b + a, fun x y h0 hxy h1 => ?_⟩
    rw [evQ_cons, evQ_cons]
    have t1 := (h x y h0 hxy h1).mul (ab_unit (x := y) (by grind) h1)
    have t2 := (k x h0 (by grind)).mul (show Ab (y - x) (y - x) by unfold Ab; grind)
    have t3 := t1.add t2
    unfold Ab at t3 ⊢
    grind
theorem PF.lip {f : Rat → Rat} (h : PF f) : ∃ b, 0 < b ∧ ∀ x y, 0 ≤ x → x ≤ y → y ≤ 1 → Ab (f y - f x) (b * (y - x)) := by
  obtain ⟨g, l, h⟩ := h
  obtain ⟨b, k⟩ := ev_lip l
  refine ⟨absR b + 1, by have := absR_le b; grind, fun x y h0 hxy h1 => ?_⟩
  rw [(h x).1, (h y).1]
  refine (k x y h0 hxy h1).mono (Rat.mul_le_mul_of_nonneg_right ?_ (by grind))
  have := absR_le b
  grind
theorem ev_tay : ∀ l : List Rat, ∃ b, ∀ x y, 0 ≤ x → x ≤ y → y ≤ 1 → Ab (evQ l y - evQ l x - (y - x) * dv l x) (b * ((y - x) * (y - x)))
  | [] => ⟨0, fun x y _ _ _ => by rw [evQ_nil, evQ_nil, dv_nil]; unfold Ab; grind⟩
  | c :: l => by
    obtain ⟨b, h⟩ := ev_tay l
    obtain ⟨a, k⟩ := ev_lip l
    refine ⟨b + a, fun x y h0 hxy h1 => ?_⟩
    rw [evQ_cons, evQ_cons, dv_cons]
    have t1 := (h x y h0 hxy h1).mul (ab_unit (x := x) h0 (by grind))
    have t2 := (k x y h0 hxy h1).mul (show Ab (y - x) (y - x) by unfold Ab; grind)
    have t3 := t1.add t2
    unfold Ab at t3 ⊢
    grind
theorem PD.tay {f g : Rat → Rat} (h : PD f g) : ∃ b, 0 < b ∧ ∀ x y, 0 ≤ x → x ≤ y → y ≤ 1 → Ab (f y - f x - (y - x) * g x) (b * ((y - x) * (y - x))) := by
  obtain ⟨l, h⟩ := h
  obtain ⟨b, k⟩ := ev_tay l
  refine ⟨absR b + 1, by have := absR_le b; grind, fun x y h0 hxy h1 => ?_⟩
  rw [(h x).1, (h y).1, (h x).2]
  refine (k x y h0 hxy h1).mono (Rat.mul_le_mul_of_nonneg_right ?_ (Rat.mul_nonneg (by grind) (by grind)))
  have := absR_le b
  grind
/-- without a shared factor: not both small -/
theorem Cop.gap {a b : Rat → Rat} (h : Cop a b) : ∃ e, 0 < e ∧ ∀ x, 0 ≤ x → x ≤ 1 → Far e (a x) ∨ Far e (b x) := by
  obtain ⟨u, v, hu, hv, h⟩ := h
  obtain ⟨p, hp, hu⟩ := hu.bdd
  obtain ⟨q, hq, hv⟩ := hv.bdd
  have hpq : 0 < p + q := by grind
  refine ⟨1 / (p + q), by
    rw [Rat.div_def, Rat.one_mul]
    exact Rat.inv_pos.mpr hpq, fun x h0 h1 => ?_⟩
  have he : (p + q) * (1 / (p + q)) = 1 := by grind
  generalize 1 / (p + q) = e at he
  by_cases k1 : Far e (a x)
  · exact .inl k1
  by_cases k2 : Far e (b x)
  · exact .inr k2
  have t1 := (hu x h0 h1).mul (show Ab (a x) (absR (a x)) from ab_abs _)
  have t2 := (hv x h0 h1).mul (show Ab (b x) (absR (b x)) from ab_abs _)
  have s1 : absR (a x) < e := by unfold Far at k1; unfold absR; grind
  have s2 : absR (b x) < e := by unfold Far at k2; unfold absR; grind
  have t3 := (t1.add t2).2
  rw [h x] at t3
  have m1 := Rat.mul_lt_mul_of_pos_left s1 hp
  have m2 := Rat.mul_lt_mul_of_pos_left s2 hq
  grind
end Kq

set_option Elab.async false
set_option linter.all false
set_option maxRecDepth 100000
set_option maxHeartbeats 1000000
/-! changes of signs along a chain, plain -/
namespace Kq
def sgR (y : Rat) : Int := if 0 < y then 1 else if y < 0 then -1 else 0
theorem sgR_pos {y : Rat} (h : 0 < y) : sgR y = 1 := if_pos h
theorem sgR_neg {y : Rat} (h : y < 0) : sgR y = -1 := by
  unfold sgR
  rw [if_neg (by grind), if_pos h]
theorem sgR_zero : sgR 0 = 0 := by
  unfold sgR
  rw [if_neg (by grind), if_neg (by grind)]
theorem sgR_cases (y : Rat) : (0 < y ∧ sgR y = 1) ∨ (y < 0 ∧ sgR y = -1) ∨ (y = 0 ∧ sgR y = 0) := by
  unfold sgR
  grind
theorem sgR_mul (a b : Rat) : sgR (a * b) = sgR a * sgR b := by
  rcases sgR_cases a with ⟨ha, ea⟩ | ⟨ha, ea⟩ | ⟨ha, ea⟩ <;> rcases sgR_cases b with ⟨hb, eb⟩ | ⟨hb, eb⟩ | ⟨hb, eb⟩ <;> rw [ea, eb]
  · rw [sgR_pos (Rat.mul_pos ha hb)]; rfl
  · have := Rat.mul_pos ha (show 0 < -b by grind)
    rw [sgR_neg (by grind)]; rfl
  · rw [hb, Rat.mul_zero, sgR_zero]; rfl
  · have := Rat.mul_pos (show 0 < -a by grind) hb
    rw [sgR_neg (by grind)]; rfl
  · have := Rat.mul_pos (show 0 < -a by grind) (show 0 < -b by grind)
    rw [sgR_pos (by grind)]; rfl
  · rw [hb, Rat.mul_zero, sgR_zero]; rfl
  · rw [ha, Rat.zero_mul, sgR_zero]; rfl
  · rw [ha, Rat.zero_mul, sgR_zero]; rfl
  · rw [ha, Rat.zero_mul, sgR_zero]; rfl
/-! ### small enough -/
def Sml (R : Rat → Prop) : Prop := ∃ e, 0 < e ∧ ∀ e', 0 < e' → e' ≤ e → R e'
def minR (a b : Rat) : Rat := if a ≤ b then a else b
theorem minR_le (a b : Rat) : minR a b ≤ a ∧ minR a b ≤ b ∧ (minR a b = a ∨ minR a b = b) := by
  unfold minR
  grind
theorem Sml.and {R S : Rat → Prop} (h : Sml R) (k : Sml S) : Sml fun e => R e ∧ S e := by
  obtain ⟨a, ha, h⟩ := h
  obtain ⟨b, hb, k⟩ := k
  have := minR_le a b
  exact ⟨minR a b, by grind, fun e he hl => ⟨h e he (by grind), k e he (by grind)⟩⟩
theorem Sml.mono {R S : Rat → Prop} (h : Sml R) (k : ∀ e, 0 < e → R e → S e) : Sml S := by
  obtain ⟨a, ha, h⟩ := h
  exact ⟨a, ha, fun e he hl => k e he (h e he hl)⟩
theorem Sml.all {R : Rat → Prop} (h : ∀ e, 0 < e → R e) : Sml R := ⟨1, by decide, fun e he _ => h e he⟩
theorem Sml.list {R : α → Rat → Prop} : ∀ {l : List α}, (∀ g ∈ l, Sml (R g)) → Sml fun e => ∀ g ∈ l, R g e
  | [], _ => .all fun e _ g h => by cases h
  | a :: l, h => ((h a List.mem_cons_self).and (Sml.list fun g hg => h g (List.mem_cons_of_mem _ hg))).mono fun e _ k g hg => by
    rcases List.mem_cons.mp hg with rfl | hg
    · exact k.1
    · exact k.2 g hg
theorem Sml.ex {R : Rat → Prop} (h : Sml R) : ∃ e, 0 < e ∧ R e := by
  obtain ⟨a, ha, h⟩ := h
  exact ⟨a, ha, h a ha (by grind)⟩
theorem Far.mono {a b y : Rat} (h : Far a y) (l : b ≤ a) : Far b y := by
  unfold Far at *
  grind
/-! ### steady steps -/
/-- far from zero at a step's start: the same sign at its end -/
def St (f : Rat → Rat) (e d : Rat) : Prop := ∀ u v, 0 ≤ u → u ≤ v → v ≤ 1 → v - u ≤ d → Ab (f v - f u) (e / 2)
theorem St.sg {f : Rat → Rat} {e d u v : Rat} (he : 0 < e) (h : St f e d) (hu : 0 ≤ u) (huv : u ≤ v) (hv : v ≤ 1) (hd : v - u ≤ d) (hf : Far e (f u)) : sgR (f v) = sgR (f u) ∧ sgR (f u) ≠ 0 ∧ f u ≠ 0 ∧ f v ≠ 0 := by
  have h1 := h u v hu huv hv hd
  have h2 : e / 2 < e := by grind
  unfold Ab at h1
  unfold Far at hf
  rcases hf with hf | hf
  · have a1 : 0 < f u := by grind
    have a2 : 0 < f v := by grind
    rw [sgR_pos a1, sgR_pos a2]
    exact ⟨rfl, by decide, by grind, by grind⟩
  · have a1 : f u < 0 := by grind
    have a2 : f v < 0 := by grind
    rw [sgR_neg a1, sgR_neg a2]
    exact ⟨rfl, by decide, by grind, by grind⟩
theorem st_sml {f : Rat → Rat} (h : PF f) {e : Rat} (he : 0 < e) : Sml (St f e) := by
  obtain ⟨b, hb, h⟩ := h.lip
  refine ⟨e / 2 / b, ?_, fun d hd hl u v h0 huv h1 hdd => (h u v h0 huv h1).mono ?_⟩
  · rw [Rat.div_def]
    exact Rat.mul_pos (by grind) (Rat.inv_pos.mpr hb)
  · have h2 : b * (e / 2 / b) = e / 2 := by grind
    have h3 := Rat.mul_le_mul_of_nonneg_left (show v - u ≤ e / 2 / b by grind) (Rat.le_of_lt hb)
    grind
/-! ### changes -/
def var (fs : List (Rat → Rat)) (x : Rat) : Nat := chg ((fs.map fun f => sgR (f x)).filter fun s => s ≠ 0)
theorem var_zero {f : Rat → Rat} {fs : List (Rat → Rat)} {x : Rat} (h : f x = 0) : var (f :: fs) x = var fs x := by
  unfold var
  rw [List.map_cons, List.filter_cons, if_neg (by rw [h, sgR_zero]; decide)]
theorem var_non {f g : Rat → Rat} {fs : List (Rat → Rat)} {x : Rat} (h : sgR (f x) ≠ 0) (k : sgR (g x) ≠ 0) : var (f :: g :: fs) x = (if sgR (f x) ≠ sgR (g x) then 1 else 0) + var (g :: fs) x := by
  unfold var
  rw [List.map_cons, List.map_cons, List.filter_cons, if_pos (by simpa using h), List.filter_cons, if_pos (by simpa using k)]
  rfl
theorem var_one {f : Rat → Rat} {x : Rat} : var [f] x = 0 := by
  unfold var
  rw [List.map_cons, List.filter_cons]
  split <;> rfl
theorem sgR_of {y : Rat} (h : sgR y ≠ 0) : sgR y = 1 ∨ sgR y = -1 := by
  rcases sgR_cases y with h1 | h1 | h1
  · exact .inl h1.2
  · exact .inr h1.2
  · exact absurd h1.2 h
/-- a row in the middle, between two of other signs: one change, whatever it is -/
theorem var_mid {f g h : Rat → Rat} {fs : List (Rat → Rat)} {x : Rat} (a : sgR (f x) ≠ 0) (b : sgR (h x) = -sgR (f x)) : var (f :: g :: h :: fs) x = 1 + var (h :: fs) x := by
  have b0 : sgR (h x) ≠ 0 := by omega
  by_cases hg : sgR (g x) = 0
  · have e : var (f :: g :: h :: fs) x = var (f :: h :: fs) x := by
      unfold var
      rw [List.map_cons, List.map_cons, List.filter_cons, if_pos (by simpa using a), List.filter_cons, if_neg (by simpa using hg), List.map_cons (l := h :: fs), List.filter_cons, if_pos (by simpa using a)]
    rw [e, var_non a b0, if_pos (by omega)]
  · rw [var_non a hg, var_non hg b0]
    rcases sgR_of a with e1 | e1 <;> rcases sgR_of hg with e2 | e2 <;> rw [b, e1, e2] <;> simp <;> omega
/-- rows that are tame for e and d -/
def Tame (e d : Rat) : List (Rat → Rat) → Prop
  | [] => False
  | [f] => St f e d ∧ ∀ x, 0 ≤ x → x ≤ 1 → Far e (f x)
  | [f, g] => St f e d ∧ Tame e d [g]
  | f :: g :: h :: fs => St f e d ∧ (∀ x, 0 ≤ x → x ≤ 1 → Far e (g x) ∨ (sgR (h x) = -sgR (f x) ∧ Far e (f x) ∧ Far e (h x))) ∧ Tame e d (g :: h :: fs)
theorem tame_tail {e d : Rat} (he : 0 < e) : ∀ (n : Nat) (g : Rat → Rat) (fs : List (Rat → Rat)), fs.length ≤ n → Tame e d (g :: fs) → ∀ u v, 0 ≤ u → u ≤ v → v ≤ 1 → v - u ≤ d → Far e (g u) → var (g :: fs) u = var (g :: fs) v
  | _, g, [], _, _, u, v, _, _, _, _, _ => by rw [var_one, var_one]
  | n, g, [h], _, t, u, v, h0, huv, h1, hd, hf => by
    obtain ⟨s1, s2, t2⟩ := t
    obtain ⟨a1, a2, _⟩ := s1.sg he h0 huv h1 hd hf
    obtain ⟨b1, b2, _⟩ := s2.sg he h0 huv h1 hd (t2 u h0 (by grind))
    rw [var_non a2 b2, var_non (by rw [a1]; exact a2) (by rw [b1]; exact b2), a1, b1, var_one, var_one]
  | 0, g, h :: k :: fs, hn, _, _, _, _, _, _, _, _ => by simp at hn
  | n + 1, g, h :: k :: fs, hn, t, u, v, h0, huv, h1, hd, hf => by
    obtain ⟨s1, t2, t3⟩ := t
    obtain ⟨a1, a2, _⟩ := s1.sg he h0 huv h1 hd hf
    have hn' : (k :: fs).length ≤ n := by simpa using hn
    by_cases hh : Far e (h u)
    · have s2 : St h e d := by
        cases fs with
        | nil => exact t3.1
        | cons _ _ => exact t3.1
      obtain ⟨b1, b2, _⟩ := s2.sg he h0 huv h1 hd hh
      have ih := tame_tail he n h (k :: fs) hn' t3 u v h0 huv h1 hd hh
      rw [var_non (x := u) (fs := k :: fs) a2 b2, var_non (x := v) (fs := k :: fs) (by rw [a1]; exact a2) (by rw [b1]; exact b2), a1, b1, ih]
    · rcases t2 u h0 (by grind) with z | ⟨z1, z2, z3⟩
      · exact absurd z hh
      · have t4 : Tame e d (k :: fs) := by
          cases fs with
          | nil => exact t3.2
          | cons _ _ => exact t3.2.2
        have s3 : St k e d := by
          cases fs with
          | nil => exact t4.1
          | cons j fs => cases fs with
            | nil => exact t4.1
            | cons _ _ => exact t4.1
        obtain ⟨c1, c2, _⟩ := s3.sg he h0 huv h1 hd z3
        have ih := tame_tail he n k fs (by simpa using Nat.le_of_succ_le hn') t4 u v h0 huv h1 hd z3
        rw [var_mid a2 z1, var_mid (by rw [a1]; exact a2) (by rw [c1, a1]; exact z1), ih]
/-! ### a chain is tame -/
inductive Chain : List (Rat → Rat) → Prop where
  | one {f : Rat → Rat} {c : Rat} (hc : c ≠ 0) (h : ∀ x, f x = c) : Chain [f]
  | two {f g : Rat → Rat} (hf : PF f) (r : Chain [g]) : Chain [f, g]
  | step {f g h q : Rat → Rat} {fs : List (Rat → Rat)} {a b : Rat} (hf : PF f) (hq : PF q) (ha : 0 < a) (hb : 0 < b) (e : ∀ x, a * f x = q x * g x - b * h x) (r : Chain (g :: h :: fs)) : Chain (f :: g :: h :: fs)
theorem Chain.pf {f : Rat → Rat} {fs : List (Rat → Rat)} (h : Chain (f :: fs)) : PF f := by
  cases h with
  | one hc h => exact (pf_const _).congr h
  | two hf _ => exact hf
  | step hf _ _ _ _ _ => exact hf
theorem cop_c {f g : Rat → Rat} {c : Rat} (hc : c ≠ 0) (h : ∀ x, g x = c) : Cop f g := ((cop_one f).smul hc).congr (fun _ => rfl) fun x => by rw [h]; grind
theorem Chain.cop : ∀ {fs : List (Rat → Rat)} {f g : Rat → Rat}, Chain (f :: g :: fs) → Cop f g
  | _, f, g, .two _ (.one hc h) => cop_c hc h
  | _, f, g, .step (h := h) (q := q) (a := a) (b := b) hf hq ha hb e r => by
    obtain ⟨u, v, hu, hv, k⟩ := r.cop
    refine ⟨fun x => -(a / b) * v x, fun x => u x + (1 / b) * (v x * q x), hv.smul _, hu.add ((hv.mul hq).smul _), fun x => ?_⟩
    have h1 := e x
    have h2 := k x
    have hb' : b ≠ 0 := by grind
    have h3 : h x = (1 / b) * (q x * g x - a * f x) := by grind
    rw [h3] at h2
    grind
theorem Far.sg {e y : Rat} (he : 0 < e) (h : Far e y) : (sgR y = 1 ∧ e ≤ y) ∨ (sgR y = -1 ∧ y ≤ -e) := by
  rcases h with h | h
  · exact .inl ⟨sgR_pos (by grind), h⟩
  · exact .inr ⟨sgR_neg (by grind), h⟩
theorem Chain.tame : ∀ {fs : List (Rat → Rat)}, Chain fs → Sml fun e => Sml fun d => Tame e d fs
  | _, .one (f := f) (c := c) hc h => by
    refine ⟨absR c, ?_, fun e he hl => (st_sml ((pf_const c).congr h) he).mono fun d hd s => ⟨s, fun x _ _ => ?_⟩⟩
    · unfold absR; grind
    · rw [h]
      unfold absR at hl
      unfold Far
      grind
  | _, .two (g := g) hf r => by
    obtain ⟨a, ha, k⟩ := r.tame
    exact ⟨a, ha, fun e he hl => ((st_sml hf he).and (k e he hl)).mono fun d hd t => ⟨t.1, t.2⟩⟩
  | _, .step (f := f) (g := g) (h := h) (q := q) (fs := fs) (a := a) (b := b) hf hq ha hb eq r => by
    obtain ⟨e0, he0, k⟩ := r.tame
    obtain ⟨e1, he1, g1⟩ := (Chain.step hf hq ha hb eq r).cop.gap
    obtain ⟨e2, he2, g2⟩ := r.cop.gap
    obtain ⟨m, hm, bq⟩ := hq.bdd
    have m1 := minR_le e0 e1
    have m2 := minR_le (minR e0 e1) e2
    have m3 := minR_le (minR (minR e0 e1) e2) (a * e1 / m)
    have hp : 0 < a * e1 / m := by
      rw [Rat.div_def]
      exact Rat.mul_pos (Rat.mul_pos ha he1) (Rat.inv_pos.mpr hm)
    refine ⟨minR (minR (minR e0 e1) e2) (a * e1 / m), by grind, fun e he hl => ((st_sml hf he).and (k e he (by grind))).mono fun d hd t => ⟨t.1, fun x x0 x1 => ?_, t.2⟩⟩
    by_cases hg : Far e (g x)
    · exact .inl hg
    · have f1 : Far e1 (f x) := (g1 x x0 x1).resolve_right fun z => hg (z.mono (by grind))
      have f2 : Far e2 (h x) := (g2 x x0 x1).resolve_left fun z => hg (z.mono (by grind))
      refine .inr ⟨?_, f1.mono (by grind), f2.mono (by grind)⟩
      have hgx : Ab (g x) e := by
        unfold Far at hg
        unfold Ab
        grind
      have t1 := (bq x x0 x1).mul hgx
      have t2 : m * e ≤ a * e1 := by
        have t3 := Rat.mul_le_mul_of_nonneg_left (show e ≤ a * e1 / m by grind) (Rat.le_of_lt hm)
        have t4 : m * (a * e1 / m) = a * e1 := by grind
        grind
      have t5 := eq x
      have t6 := Rat.mul_pos hb he2
      unfold Ab at t1
      rcases f1.sg he1 with ⟨s1, l1⟩ | ⟨s1, l1⟩ <;> rcases f2.sg he2 with ⟨s2, l2⟩ | ⟨s2, l2⟩
      · have p1 := Rat.mul_le_mul_of_nonneg_left l1 (Rat.le_of_lt ha)
        have p2 := Rat.mul_le_mul_of_nonneg_left l2 (Rat.le_of_lt hb)
        exact absurd t5 (by grind)
      · rw [s1, s2]
      · rw [s1, s2]; rfl
      · have p1 := Rat.mul_le_mul_of_nonneg_left l1 (Rat.le_of_lt ha)
        have p2 := Rat.mul_le_mul_of_nonneg_left l2 (Rat.le_of_lt hb)
        exact absurd t5 (by grind)
end Kq

set_option Elab.async false
set_option linter.all false
set_option maxRecDepth 100000
set_option maxHeartbeats 1000000
/-! how many roots between two points, plain -/
namespace Kq
def prodR : List (Rat → Rat) → Rat → Rat
  | [], _ => 1
  | f :: fl, x => f x * prodR fl x
def cnt : List (Rat → Rat) → Rat → Nat
  | [], _ => 0
  | f :: fl, x => (if 0 ≤ f x then 1 else 0) + cnt fl x
def Inc (f : Rat → Rat) : Prop := ∀ u v, 0 ≤ u → u < v → v ≤ 1 → f u < f v
structure TameF (e d : Rat) (fl : List (Rat → Rat)) : Prop where
  st : ∀ f ∈ fl, St f e d
  inc : ∀ f ∈ fl, Inc f
  far : fl.Pairwise fun f g => ∀ x, 0 ≤ x → x ≤ 1 → Far e (f x) ∨ Far e (g x)
theorem all_far {e d u v : Rat} (he : 0 < e) (h0 : 0 ≤ u) (huv : u < v) (h1 : v ≤ 1) (hd : v - u ≤ d) : ∀ {fl : List (Rat → Rat)}, (∀ f ∈ fl, St f e d) → (∀ f ∈ fl, Far e (f u)) →
    cnt fl u = cnt fl v ∧ sgR (prodR fl v) = sgR (prodR fl u) ∧ sgR (prodR fl u) ≠ 0
  | [], _, _ => ⟨rfl, rfl, by show sgR 1 ≠ 0; rw [sgR_pos (by decide)]; decide⟩
  | f :: fl, hs, hf => by
    obtain ⟨i1, i2, i3⟩ := all_far he h0 huv h1 hd (fun g hg => hs g (List.mem_cons_of_mem _ hg)) (fun g hg => hf g (List.mem_cons_of_mem _ hg))
    obtain ⟨a1, a2, _⟩ := (hs f List.mem_cons_self).sg he h0 (Rat.le_of_lt huv) h1 hd (hf f List.mem_cons_self)
    show (if 0 ≤ f u then 1 else 0) + cnt fl u = (if 0 ≤ f v then 1 else 0) + cnt fl v ∧ sgR (f v * prodR fl v) = sgR (f u * prodR fl u) ∧ sgR (f u * prodR fl u) ≠ 0
    rw [sgR_mul, sgR_mul, a1, i1, i2]
    refine ⟨?_, rfl, Int.mul_ne_zero a2 i3⟩
    rcases sgR_cases (f u) with ⟨b1, b2⟩ | ⟨b1, b2⟩ | ⟨b1, b2⟩ <;> rcases sgR_cases (f v) with ⟨c1, c2⟩ | ⟨c1, c2⟩ | ⟨c1, c2⟩
    · rw [if_pos (by grind), if_pos (by grind)]
    · omega
    · omega
    · omega
    · rw [if_neg (by grind), if_neg (by grind)]
    · omega
    · omega
    · omega
    · omega
/-- in a small step: no root, or one -/
theorem flip_of {e d u v : Rat} (he : 0 < e) (h0 : 0 ≤ u) (huv : u < v) (h1 : v ≤ 1) (hd : v - u ≤ d) : ∀ {fl : List (Rat → Rat)}, TameF e d fl →
    (cnt fl u = cnt fl v ∧ (prodR fl u = 0 ∨ (sgR (prodR fl v) = sgR (prodR fl u) ∧ sgR (prodR fl u) ≠ 0))) ∨
    (cnt fl v = cnt fl u + 1 ∧ ∃ t : Int, t ≠ 0 ∧ sgR (prodR fl u) = -t ∧ (sgR (prodR fl v) = t ∨ prodR fl v = 0))
  | [], _ => .inl ⟨rfl, .inr ⟨rfl, by show sgR 1 ≠ 0; rw [sgR_pos (by decide)]; decide⟩⟩
  | f :: fl, h => by
    have hm : ∀ {g}, g ∈ fl → g ∈ f :: fl := fun hg => List.mem_cons_of_mem _ hg
    have sf := h.st f List.mem_cons_self
    have incf := h.inc f List.mem_cons_self u v h0 huv h1
    have hp := List.pairwise_cons.mp h.far
    have small : ¬ Far e (f u) → cnt fl u = cnt fl v ∧ sgR (prodR fl v) = sgR (prodR fl u) ∧ sgR (prodR fl u) ≠ 0 := fun hn =>
      all_far he h0 huv h1 hd (fun g hg => h.st g (hm hg)) fun g hg => (hp.1 g hg u h0 (by grind)).resolve_left hn
    show ((if 0 ≤ f u then 1 else 0) + cnt fl u = (if 0 ≤ f v then 1 else 0) + cnt fl v ∧ (f u * prodR fl u = 0 ∨ (sgR (f v * prodR fl v) = sgR (f u * prodR fl u) ∧ sgR (f u * prodR fl u) ≠ 0))) ∨
      ((if 0 ≤ f v then 1 else 0) + cnt fl v = (if 0 ≤ f u then 1 else 0) + cnt fl u + 1 ∧ ∃ t : Int, t ≠ 0 ∧ sgR (f u * prodR fl u) = -t ∧ (sgR (f v * prodR fl v) = t ∨ f v * prodR fl v = 0))
    rcases sgR_cases (f u) with ⟨b1, b2⟩ | ⟨b1, b2⟩ | ⟨b1, b2⟩
    · -- above at both
      have c1 : 0 < f v := by grind
      rw [if_pos (show 0 ≤ f u by grind), if_pos (show 0 ≤ f v by grind), sgR_mul, sgR_mul, b2, sgR_pos c1]
      rcases flip_of he h0 huv h1 hd ⟨fun g hg => h.st g (hm hg), fun g hg => h.inc g (hm hg), hp.2⟩ with ⟨i1, i2⟩ | ⟨i1, t, t0, i2, i3⟩
      · refine .inl ⟨by omega, ?_⟩
        rcases i2 with i2 | ⟨i2, i3⟩
        · exact .inl (by rw [i2, Rat.mul_zero])
        · exact .inr ⟨by omega, by omega⟩
      · refine .inr ⟨by omega, t, t0, by omega, ?_⟩
        rcases i3 with i3 | i3
        · exact .inl (by omega)
        · exact .inr (by rw [i3, Rat.mul_zero])
    · by_cases c1 : f v < 0
      · -- below at both
        rw [if_neg (show ¬ 0 ≤ f u by grind), if_neg (show ¬ 0 ≤ f v by grind), sgR_mul, sgR_mul, b2, sgR_neg c1]
        rcases flip_of he h0 huv h1 hd ⟨fun g hg => h.st g (hm hg), fun g hg => h.inc g (hm hg), hp.2⟩ with ⟨i1, i2⟩ | ⟨i1, t, t0, i2, i3⟩
        · refine .inl ⟨by omega, ?_⟩
          rcases i2 with i2 | ⟨i2, i3⟩
          · exact .inl (by rw [i2, Rat.mul_zero])
          · exact .inr ⟨by omega, by omega⟩
        · refine .inr ⟨by omega, -t, by omega, by omega, ?_⟩
          rcases i3 with i3 | i3
          · exact .inl (by omega)
          · exact .inr (by rw [i3, Rat.mul_zero])
      · -- across
        have nf : ¬ Far e (f u) := fun hf => by
          obtain ⟨a1, _, _, a4⟩ := sf.sg he h0 (Rat.le_of_lt huv) h1 hd hf
          rw [b2] at a1
          rcases sgR_cases (f v) with z | z | z
          · omega
          · exact c1 z.1
          · omega
        obtain ⟨i1, i2, i3⟩ := small nf
        rw [if_neg (show ¬ 0 ≤ f u by grind), if_pos (show 0 ≤ f v by grind), sgR_mul, sgR_mul, b2]
        refine .inr ⟨by omega, sgR (prodR fl u), i3, by omega, ?_⟩
        rcases sgR_cases (f v) with ⟨z1, z2⟩ | ⟨z1, z2⟩ | ⟨z1, z2⟩
        · exact .inl (by rw [z2]; omega)
        · exact absurd z1 c1
        · exact .inr (by rw [z1, Rat.zero_mul])
    · -- zero at the start
      have nf : ¬ Far e (f u) := fun hf => by
        unfold Far at hf
        grind
      obtain ⟨i1, i2, i3⟩ := small nf
      rw [if_pos (show 0 ≤ f u by grind), if_pos (show 0 ≤ f v by grind)]
      exact .inl ⟨by omega, .inl (by rw [b1, Rat.zero_mul])⟩
/-- one small step along the whole chain -/
theorem sturm_step {e d u v k : Rat} (he : 0 < e) (h0 : 0 ≤ u) (huv : u < v) (h1 : v ≤ 1) (hd : v - u ≤ d) {fl : List (Rat → Rat)} (tf : TameF e d fl) {G g W : Rat → Rat} {fs : List (Rat → Rat)} (tm : Tame e d (G :: g :: fs)) (hk : k ≠ 0)
    (hW : ∀ x, 0 ≤ x → x ≤ 1 → 0 < W x) (hG : ∀ x, G x = k * W x * prodR fl x) (pair : ∀ x, 0 ≤ x → x ≤ 1 → Far e (G x) ∨ Far e (g x)) (mono : Far e (g u) → sgR (G v - G u) = sgR (g u)) :
    var (G :: g :: fs) u + cnt fl u = var (G :: g :: fs) v + cnt fl v := by
  have hu1 : u ≤ 1 := by grind
  have hv0 : 0 ≤ v := by grind
  have sG : ∀ x, 0 ≤ x → x ≤ 1 → sgR (G x) = sgR k * sgR (prodR fl x) := fun x a b => by
    rw [hG, sgR_mul, sgR_mul, sgR_pos (hW x a b), Int.mul_one]
  have sk : sgR k = 1 ∨ sgR k = -1 := sgR_of fun z => by
    rcases sgR_cases k with y | y | y
    · omega
    · omega
    · exact hk y.1
  have su := sG u h0 hu1
  have sv := sG v hv0 h1
  have hGst : St G e d := by
    cases fs with
    | nil => exact tm.1
    | cons _ _ => exact tm.1
  have tg : Tame e d (g :: fs) := by
    cases fs with
    | nil => exact tm.2
    | cons _ _ => exact tm.2.2
  have hgst : St g e d := by
    cases fs with
    | nil => exact tg.1
    | cons _ fs => cases fs with
      | nil => exact tg.1
      | cons _ _ => exact tg.1
  have zG : ∀ {x}, prodR fl x = 0 → G x = 0 := fun h => by rw [hG, h, Rat.mul_zero]
  by_cases hf : Far e (G u)
  · -- no root near
    have ev := tame_tail he _ G (g :: fs) (Nat.le_refl _) tm u v h0 (Rat.le_of_lt huv) h1 hd hf
    obtain ⟨a1, a2, a3, a4⟩ := hGst.sg he h0 (Rat.le_of_lt huv) h1 hd hf
    rcases flip_of he h0 huv h1 hd tf with ⟨i1, _⟩ | ⟨i1, t, t0, i2, i3⟩
    · omega
    · exfalso
      rcases i3 with i3 | i3
      · rw [su, sv, i2, i3] at a1
        rcases sk with y | y <;> rw [y] at a1 <;> omega
      · exact a4 (zG i3)
  · have hgf := (pair u h0 hu1).resolve_left hf
    obtain ⟨b1, b2, _⟩ := hgst.sg he h0 (Rat.le_of_lt huv) h1 hd hgf
    have ev := tame_tail he _ g fs (Nat.le_refl _) tg u v h0 (Rat.le_of_lt huv) h1 hd hgf
    have mo := mono hgf
    rcases flip_of he h0 huv h1 hd tf with ⟨i1, i2⟩ | ⟨i1, t, t0, i2, i3⟩
    · rcases i2 with i2 | ⟨i2, i3⟩
      · -- a zero at the start
        have z := zG i2
        have mo2 : sgR (G v) = sgR (g u) := by
          rw [← mo, z]
          congr 1
          grind
        rw [var_zero z, var_non (x := v) (by rw [mo2]; exact b2) (by rw [b1]; exact b2), b1, mo2, if_neg (by simp)]
        omega
      · have n1 : sgR (G u) ≠ 0 := by rw [su]; exact Int.mul_ne_zero (by omega) i3
        have n2 : sgR (G v) = sgR (G u) := by rw [su, sv, i2]
        rw [var_non (x := u) n1 b2, var_non (x := v) (by rw [n2]; exact n1) (by rw [b1]; exact b2), b1, n2]
        omega
    · -- a root in the step
      have n1 : sgR (G u) = -(sgR k * t) := by rw [su, i2]; grind
      have n0 : sgR k * t ≠ 0 := Int.mul_ne_zero (by omega) t0
      have hv' : sgR (G v) = sgR k * t ∨ G v = 0 := by
        rcases i3 with i3 | i3
        · exact .inl (by rw [sv, i3])
        · exact .inr (zG i3)
      have hw : sgR k * t = 1 ∨ sgR k * t = -1 := by
        rcases sgR_cases (G u) with y | y | y <;> omega
      generalize sgR k * t = w at n1 n0 hv' hw
      have hgt : sgR (g u) = w := by
        rw [← mo]
        rcases hw with rfl | rfl
        · have a1 : G u < 0 := by
            rcases sgR_cases (G u) with y | y | y
            · omega
            · exact y.1
            · omega
          have a2 : 0 ≤ G v := by
            rcases hv' with z | z
            · rcases sgR_cases (G v) with y | y | y
              · grind
              · omega
              · grind
            · grind
          exact sgR_pos (by grind)
        · have a1 : 0 < G u := by
            rcases sgR_cases (G u) with y | y | y
            · exact y.1
            · omega
            · omega
          have a2 : G v ≤ 0 := by
            rcases hv' with z | z
            · rcases sgR_cases (G v) with y | y | y
              · omega
              · grind
              · grind
            · grind
          exact sgR_neg (by grind)
      rw [var_non (x := u) (by omega) b2, n1, hgt, if_pos (by omega)]
      rcases hv' with z | z
      · rw [var_non (x := v) (by omega) (by rw [b1]; exact b2), b1, z, hgt, if_neg (by simp)]
        omega
      · rw [var_zero z]
        omega
theorem steps {T : Rat → Int} {d : Rat} (hd : 0 < d) (h : ∀ u v, 0 ≤ u → u < v → v ≤ 1 → v - u ≤ d → T u = T v) : ∀ (n : Nat) (u v : Rat), 0 ≤ u → u ≤ v → v ≤ 1 → v - u ≤ n * d → T u = T v
  | 0, u, v, h0, huv, h1, hn => by
    have : u = v := by
      have e : ((0 : Nat) : Rat) * d = 0 := by simp
      grind
    rw [this]
  | n + 1, u, v, h0, huv, h1, hn => by
    have e : ((n + 1 : Nat) : Rat) = (n : Rat) + 1 := by simp
    rw [e] at hn
    by_cases hs : v - u ≤ d
    · by_cases he : u = v
      · rw [he]
      · exact h u v h0 (by grind) h1 hs
    · rw [h u (u + d) h0 (by grind) (by grind) (by grind)]
      exact steps hd h n (u + d) v (by grind) (by grind) h1 (by grind)
theorem steps_all {T : Rat → Int} {d : Rat} (hd : 0 < d) (h : ∀ u v, 0 ≤ u → u < v → v ≤ 1 → v - u ≤ d → T u = T v) {u v : Rat} (h0 : 0 ≤ u) (huv : u ≤ v) (h1 : v ≤ 1) : T u = T v := by
  refine steps hd h d.den u v h0 huv h1 ?_
  have h2 : 0 < d.num := by simpa using (Rat.lt_iff 0 d).mp hd
  have h3 : (d.den : Rat) * d = (d.num : Rat) := by
    have e := Rat.num_divInt_den d
    rw [Rat.divInt_eq_div] at e
    have e2 : ((d.den : Int) : Rat) = (d.den : Rat) := rfl
    rw [e2] at e
    have e3 := natCast_ne d.den_pos
    grind
  have h4 : ((1 : Int) : Rat) ≤ (d.num : Rat) := Rat.intCast_le_intCast.mpr (by omega)
  rw [h3]
  have h5 : ((1 : Int) : Rat) = 1 := rfl
  grind
/-- a list of functions that differ: far from each other -/
theorem pair_sml : ∀ {fl : List (Rat → Rat)}, fl.Pairwise Cop → Sml fun e => fl.Pairwise fun f g => ∀ x, 0 ≤ x → x ≤ 1 → Far e (f x) ∨ Far e (g x)
  | [], _ => .all fun _ _ => .nil
  | f :: fl, h => by
    obtain ⟨h1, h2⟩ := List.pairwise_cons.mp h
    have a : Sml fun e => ∀ g ∈ fl, ∀ x, 0 ≤ x → x ≤ 1 → Far e (f x) ∨ Far e (g x) := Sml.list (R := fun (g : Rat → Rat) e => ∀ x, 0 ≤ x → x ≤ 1 → Far e (f x) ∨ Far e (g x)) fun g hg => by
      obtain ⟨e, he, k⟩ := (h1 g hg).gap
      exact ⟨e, he, fun e' he' hl x x0 x1 => (k x x0 x1).imp (fun z => z.mono hl) (fun z => z.mono hl)⟩
    exact (a.and (pair_sml h2)).mono fun e _ k => .cons k.1 k.2
theorem mono_step {c b e r Gu Gv Gp gu : Rat} (hc : 0 < c) (he : 0 < e) (hr : 0 < r) (h2 : gu = c * Gp) (t : Ab (Gv - Gu - r * Gp) (b * (r * r))) (hm : c * b * r ≤ e / 2) (hf : Far e gu) : sgR (Gv - Gu) = sgR gu := by
  have t2 := Rat.mul_le_mul_of_nonneg_right hm (Rat.le_of_lt hr)
  have t3 := Rat.mul_le_mul_of_nonneg_left t.1 (Rat.le_of_lt hc)
  have t4 := Rat.mul_le_mul_of_nonneg_left t.2 (Rat.le_of_lt hc)
  have m3 := Rat.mul_pos he hr
  have e1 : c * (Gv - Gu - r * Gp) = c * (Gv - Gu) - gu * r := by rw [h2]; grind
  have e2 : c * (b * (r * r)) = c * b * r * r := by grind
  have e3 : c * -(b * (r * r)) = -(c * b * r * r) := by grind
  rw [e1] at t3 t4
  rw [e2] at t4
  rw [e3] at t3
  generalize c * b * r * r = w at t2 t3 t4
  have e4 : e / 2 * r = e * r / 2 := by grind
  rw [e4] at t2
  rcases hf.sg he with ⟨s1, l1⟩ | ⟨s1, l1⟩
  · rw [s1]
    have m4 := Rat.mul_le_mul_of_nonneg_right l1 (Rat.le_of_lt hr)
    refine sgR_pos (Rat.not_le.mp fun z => ?_)
    have m5 := Rat.mul_le_mul_of_nonneg_left z (Rat.le_of_lt hc)
    generalize gu * r = y at *
    generalize e * r = x at *
    generalize c * (Gv - Gu) = v at *
    grind
  · rw [s1]
    have m4 := Rat.mul_le_mul_of_nonneg_right l1 (Rat.le_of_lt hr)
    refine sgR_neg (Rat.not_le.mp fun z => ?_)
    have m5 := Rat.mul_le_mul_of_nonneg_left z (Rat.le_of_lt hc)
    have e5 : -e * r = -(e * r) := by grind
    rw [e5] at m4
    generalize gu * r = y at *
    generalize e * r = x at *
    generalize c * (Gv - Gu) = v at *
    grind
/-- Sturm: what is lost between two points is what was crossed -/
theorem sturm {fl : List (Rat → Rat)} (hinc : ∀ f ∈ fl, Inc f) (hpf : ∀ f ∈ fl, PF f) (hcop : fl.Pairwise Cop) {G G' g : Rat → Rat} {W : Rat → Rat} {fs : List (Rat → Rat)} {k c : Rat} (ch : Chain (G :: g :: fs)) (hk : k ≠ 0) (hc : 0 < c) (hd : PD G G')
    (hg : ∀ x, g x = c * G' x) (hW : ∀ x, 0 ≤ x → x ≤ 1 → 0 < W x) (hG : ∀ x, G x = k * W x * prodR fl x) {u v : Rat} (h0 : 0 ≤ u) (huv : u ≤ v) (h1 : v ≤ 1) : var (G :: g :: fs) u + cnt fl u = var (G :: g :: fs) v + cnt fl v := by
  obtain ⟨e0, he0, gp⟩ := ch.cop.gap
  have gp' : Sml fun e => ∀ x, 0 ≤ x → x ≤ 1 → Far e (G x) ∨ Far e (g x) := ⟨e0, he0, fun e' he' hl x x0 x1 => (gp x x0 x1).imp (fun z => z.mono hl) (fun z => z.mono hl)⟩
  obtain ⟨e, he, ⟨⟨tm, pw⟩, gp⟩⟩ := ((ch.tame.and (pair_sml hcop)).and gp').ex
  have sts : Sml fun d => ∀ f ∈ fl, St f e d := Sml.list (R := fun f d => St f e d) fun f hf => st_sml (hpf f hf) he
  obtain ⟨b, hb, ty⟩ := hd.tay
  have mo : Sml fun d => c * b * d ≤ e / 2 := by
    have hcb := Rat.mul_pos hc hb
    refine ⟨e / 2 / (c * b), ?_, fun d hd hl => ?_⟩
    · rw [Rat.div_def]
      exact Rat.mul_pos (by grind) (Rat.inv_pos.mpr hcb)
    · have h2 : c * b * (e / 2 / (c * b)) = e / 2 := by grind
      have h3 := Rat.mul_le_mul_of_nonneg_left hl (Rat.le_of_lt hcb)
      grind
  obtain ⟨d, hd0, ⟨⟨tm, sts⟩, mo⟩⟩ := ((tm.and sts).and mo).ex
  have key := steps_all (T := fun x => ((var (G :: g :: fs) x + cnt fl x : Nat) : Int)) hd0 (fun u v u0 uv v1 hs => by
    have := sturm_step he u0 uv v1 hs ⟨sts, hinc, pw⟩ tm hk hW hG gp (fun hf => by
      have t := ty u v u0 (Rat.le_of_lt uv) v1
      exact mono_step hc he (show 0 < v - u by grind) (hg u) t (by
        have m1 := Rat.mul_le_mul_of_nonneg_left hs (Rat.le_of_lt (Rat.mul_pos hc hb))
        grind) hf)
    rw [this]) h0 huv h1
  exact Int.ofNat.inj key
end Kq

set_option Elab.async false
set_option linter.all false
set_option maxRecDepth 100000
set_option maxHeartbeats 1000000
/-! rows of whole numbers as functions -/
namespace Kq
def evI (l : List Int) (x : Rat) : Rat := evQ (l.map fun c : Int => (c : Rat)) x
theorem evI_nil (x : Rat) : evI [] x = 0 := rfl
theorem evI_cons (c : Int) (l : List Int) (x : Rat) : evI (c :: l) x = evI l x * x + (c : Rat) := rfl
theorem pf_evI (l : List Int) : PF (evI l) := pf_ev _
theorem pwr_succ (y : Rat) (n : Nat) : pwr y (n + 1) = pwr y n * y := rfl
theorem evI_snoc (x : Rat) (c : Int) : ∀ l : List Int, evI (l ++ [c]) x = evI l x + (c : Rat) * pwr x l.length
  | [] => by rw [List.nil_append, evI_cons, evI_nil]; show _ = 0 + (c : Rat) * 1; grind
  | d :: l => by
    rw [List.cons_append, evI_cons, evI_snoc x c l, evI_cons, List.length_cons, pwr_succ]
    grind
theorem evI_map (x : Rat) (s : Int) : ∀ l : List Int, evI (l.map fun y => y * s) x = (s : Rat) * evI l x
  | [] => by rw [List.map_nil, evI_nil]; grind
  | d :: l => by
    rw [List.map_cons, evI_cons, evI_map x s l, evI_cons, Rat.intCast_mul]
    grind
theorem evI_neg (x : Rat) (l : List Int) : evI (l.map fun y => -y) x = -evI l x := by
  have h := evI_map x (-1) l
  have e : (l.map fun y => y * (-1)) = l.map fun y => -y := by
    congr 1
    funext y
    omega
  rw [e] at h
  rw [h]
  have : ((-1 : Int) : Rat) = -1 := rfl
  grind
theorem evI_set (x : Rat) : ∀ (l : List Int) (i : Nat) (v : Int), i < l.length → evI (l.set i v) x = evI l x + ((v : Rat) - (l.getD i 0 : Int)) * pwr x i
  | [], _, _, h => by simp at h
  | d :: l, 0, v, _ => by
    show evI (v :: l) x = _
    rw [evI_cons, evI_cons]
    show _ = evI l x * x + (d : Rat) + ((v : Rat) - (d : Rat)) * 1
    grind
  | d :: l, i + 1, v, h => by
    show evI (d :: l.set i v) x = _
    rw [evI_cons, evI_set x l i v (by simpa using h), evI_cons, pwr_succ]
    show _ = evI l x * x + (d : Rat) + ((v : Rat) - (l.getD i 0 : Int)) * (pwr x i * x)
    grind
theorem evI_subAt (x : Rat) : ∀ (m l : List Int) (n : Nat) (b : Int), n + m.length ≤ l.length → evI (subAt l n b m) x = evI l x - (b : Rat) * pwr x n * evI m x
  | [], l, n, b, _ => by
    show evI l x = _
    rw [evI_nil]
    grind
  | c :: m, l, n, b, h => by
    rw [List.length_cons] at h
    show evI (subAt (l.set n (l.getD n 0 - b * c)) (n + 1) b m) x = _
    rw [evI_subAt x m _ _ _ (by rw [List.length_set]; omega), evI_set x l n _ (by omega), evI_cons, pwr_succ, Rat.intCast_sub, Rat.intCast_mul]
    grind
theorem subAt_getD : ∀ (m l : List Int) (n i : Nat) (b : Int), n + m.length ≤ i → (subAt l n b m).getD i 0 = l.getD i 0
  | [], _, _, _, _, _ => rfl
  | c :: m, l, n, i, b, h => by
    rw [List.length_cons] at h
    show (subAt (l.set n (l.getD n 0 - b * c)) (n + 1) b m).getD i 0 = _
    rw [subAt_getD m _ (n + 1) i b (by omega), List.getD_eq_getElem?_getD, List.getElem?_set_ne (by omega), ← List.getD_eq_getElem?_getD]
theorem evI_dropLast {l : List Int} (x : Rat) (h : l.getD (l.length - 1) 0 = 0) : evI l.dropLast x = evI l x := by
  by_cases hl : l = []
  · rw [hl]; rfl
  · have e := List.dropLast_concat_getLast hl
    have e2 : l.getLast hl = 0 := by
      rw [List.getLast_eq_getElem, ← h, List.getD_eq_getElem?_getD, List.getElem?_eq_getElem]
      rfl
    have e3 := evI_snoc x (l.getLast hl) l.dropLast
    rw [e, e2] at e3
    rw [e3]
    have : ((0 : Int) : Rat) = 0 := rfl
    grind
theorem evI_take (x : Rat) (l : List Int) : ∀ n, n ≤ l.length → evI (l.take (manyOf l n)) x = evI (l.take n) x
  | 0, _ => rfl
  | n + 1, h => by
    unfold manyOf
    split
    · rename_i h0
      rw [evI_take x l n (by omega), List.take_add_one, h0]
      show _ = evI (l.take n ++ [0]) x
      rw [evI_snoc]
      have : ((0 : Int) : Rat) = 0 := rfl
      grind
    · rfl
theorem evI_cut (x : Rat) (l : List Int) : evI (cut l) x = evI l x := by
  unfold cut
  rw [evI_take x l _ (Nat.le_refl _), List.take_length]
theorem fold_dvd : ∀ (l : List Int) (g : Nat), (l.foldl (fun g x => Int.gcd g x) g) ∣ g ∧ ∀ x ∈ l, ((l.foldl (fun g x => Int.gcd g x) g : Nat) : Int) ∣ x
  | [], g => ⟨Nat.dvd_refl _, fun x h => by cases h⟩
  | y :: l, g => by
    obtain ⟨h1, h2⟩ := fold_dvd l (Int.gcd g y)
    refine ⟨Nat.dvd_trans h1 ?_, fun x hx => ?_⟩
    · have := Int.gcd_dvd_left (g : Int) y
      exact Int.natCast_dvd_natCast.mp this
    · rcases List.mem_cons.mp hx with rfl | hx
      · exact Int.dvd_trans (Int.natCast_dvd_natCast.mpr h1) (Int.gcd_dvd_right _ _)
      · exact h2 x hx
theorem cont_dvd {l : List Int} {x : Int} (h : x ∈ l) : ((cont l : Nat) : Int) ∣ x := (fold_dvd l 0).2 x h
theorem dvd_fold {d : Nat} : ∀ (l : List Int) (g : Nat), d ∣ g → (∀ x ∈ l, ((d : Nat) : Int) ∣ x) → d ∣ l.foldl (fun g x => Int.gcd g x) g
  | [], g, h, _ => h
  | y :: l, g, h, k => dvd_fold l _ (Int.natCast_dvd_natCast.mp (Int.dvd_coe_gcd (Int.natCast_dvd_natCast.mpr h) (k y List.mem_cons_self))) fun x hx => k x (List.mem_cons_of_mem _ hx)
/-- a row with nothing to trim -/
def Norm (l : List Int) : Prop := l = [] ∨ (lastI l ≠ 0 ∧ cont l = 1)
theorem cut_lastI {l : List Int} (h : cut l ≠ []) : lastI (cut l) ≠ 0 := by
  have h1 : 0 < manyOf l l.length := by rw [← cut_len]; exact List.length_pos_iff.mpr h
  obtain ⟨x, hx, x0⟩ := cut_last l _ (Nat.le_refl _) h1
  unfold lastI
  rw [cut_len, List.getD_eq_getElem?_getD]
  unfold cut
  rw [List.getElem?_take, if_pos (by omega), hx]
  exact x0
theorem lastI_map (f : Int → Int) {l : List Int} (h : l ≠ []) : lastI (l.map f) = f (lastI l) := by
  have := List.length_pos_iff.mpr h
  unfold lastI
  rw [List.length_map, List.getD_eq_getElem?_getD, List.getD_eq_getElem?_getD, List.getElem?_map, List.getElem?_eq_getElem (by omega)]
  rfl
theorem lastI_mem {l : List Int} (h : l ≠ []) : lastI l ∈ l := by
  have := List.length_pos_iff.mpr h
  unfold lastI
  rw [List.getD_eq_getElem?_getD, List.getElem?_eq_getElem (by omega)]
  exact List.getElem_mem _
theorem trim_norm (l : List Int) : Norm (trim l) := by
  by_cases h : cut l = []
  · exact .inl (by unfold trim; rw [h]; rfl)
  · refine .inr ⟨?_, ?_⟩
    · unfold trim
      rw [lastI_map _ h]
      intro z
      have h1 := cut_lastI h
      have h2 := cont_dvd (lastI_mem h)
      exact h1 (Int.eq_zero_of_ediv_eq_zero h2 z)
    · have h0 := cont_pos h
      have h1 : cont (cut l) * cont (trim l) ∣ cont (cut l) := dvd_fold (cut l) 0 (Nat.dvd_zero _) fun x hx => by
        have h2 := cont_dvd hx
        have h3 : ((cont (trim l) : Nat) : Int) ∣ x / (cont (cut l) : Int) := cont_dvd (List.mem_map_of_mem hx)
        obtain ⟨k, hk⟩ := h3
        refine ⟨k, ?_⟩
        rw [Int.natCast_mul, Int.mul_assoc, ← hk, Int.mul_ediv_cancel' h2]
      obtain ⟨k, hk⟩ := h1
      have h4 : cont (cut l) * (cont (trim l) * k) = cont (cut l) * 1 := by rw [← Nat.mul_assoc, ← hk, Nat.mul_one]
      have h5 := Nat.eq_of_mul_eq_mul_left h0 h4
      exact Nat.eq_one_of_mul_eq_one_right h5
theorem evI_trim (l : List Int) : ∃ k : Rat, 0 < k ∧ ∀ x, evI l x = k * evI (trim l) x := by
  by_cases h : cut l = []
  · refine ⟨1, by decide, fun x => ?_⟩
    have e : trim l = [] := by unfold trim; rw [h]; rfl
    rw [e, ← evI_cut, h]
    rw [evI_nil]
    grind
  · have h0 := cont_pos h
    refine ⟨((cont (cut l) : Nat) : Int), by
      have h1 : ((0 : Int) : Rat) < (((cont (cut l) : Nat) : Int) : Rat) := Rat.intCast_lt_intCast.mpr (by omega)
      exact h1, fun x => ?_⟩
    have e : (trim l).map (fun y => y * (cont (cut l) : Int)) = cut l := by
      unfold trim
      rw [List.map_map]
      have e2 : (cut l).map (fun y => y) = cut l := List.map_id' _
      refine Eq.trans (List.map_congr_left fun y hy => ?_) e2
      show y / (cont (cut l) : Int) * (cont (cut l) : Int) = y
      rw [Int.ediv_mul_cancel (cont_dvd hy)]
    rw [← evI_map, e, evI_cut]
/-! ### pseudo division -/
theorem sgn_mul (x : Int) : sgnI x * x = (x.natAbs : Int) := by
  unfold sgnI
  split <;> omega
theorem nextR_ev (x : Rat) {m r : List Int} (hm : m ≠ []) (hl : m.length ≤ r.length) : evI (nextR m r) x = (sizeOfI m : Rat) * evI r x - (byOf m r : Rat) * pwr x (r.length - m.length) * evI m x := by
  have h0 := List.length_pos_iff.mpr hm
  have lm : (r.map fun y => y * sizeOfI m).length = r.length := List.length_map _
  unfold nextR
  rw [evI_cut, evI_dropLast, evI_subAt _ _ _ _ _ (by rw [lm]; omega), evI_map]
  rw [subAt_len, lm]
  have e := List.dropLast_concat_getLast hm
  have e1 : m.getLast hm = lastI m := by
    unfold lastI
    rw [List.getLast_eq_getElem, List.getD_eq_getElem?_getD, List.getElem?_eq_getElem (by omega)]
    rfl
  have e2 : subAt (r.map fun y => y * sizeOfI m) (r.length - m.length) (byOf m r) m = subAt (r.map fun y => y * sizeOfI m) (r.length - m.length) (byOf m r) (m.dropLast ++ [lastI m]) := by rw [← e1, e]
  have ld : m.dropLast.length = m.length - 1 := List.length_dropLast
  rw [e2, subAt_snoc, ld, show r.length - m.length + (m.length - 1) = r.length - 1 by omega, List.getD_eq_getElem?_getD, List.getElem?_set_self (by rw [subAt_len, lm]; omega)]
  show (subAt (r.map fun y => y * sizeOfI m) (r.length - m.length) (byOf m r) m.dropLast).getD (r.length - 1) 0 - byOf m r * lastI m = 0
  rw [subAt_getD _ _ _ _ _ (by omega)]
  have e3 : (r.map fun y => y * sizeOfI m).getD (r.length - 1) 0 = lastI r * sizeOfI m := by
    unfold lastI
    rw [List.getD_eq_getElem?_getD, List.getD_eq_getElem?_getD, List.getElem?_map, List.getElem?_eq_getElem (by omega)]
    rfl
  rw [e3]
  unfold byOf sizeOfI
  have := sgn_mul (lastI m)
  rw [← this]
  grind
theorem nextQ_ev (x : Rat) {m r q : List Int} (hq : r.length - m.length < q.length) : evI (nextQ m r q) x = (sizeOfI m : Rat) * evI q x + (byOf m r : Rat) * pwr x (r.length - m.length) := by
  show evI ((q.map fun y => y * sizeOfI m).set (r.length - m.length) ((q.map fun y => y * sizeOfI m).getD (r.length - m.length) 0 + byOf m r)) x = _
  rw [evI_set _ _ _ _ (by rw [List.length_map]; exact hq), evI_map, Rat.intCast_add]
  grind
theorem shGo_ev {m : List Int} (hm : m ≠ []) (hl : lastI m ≠ 0) : ∀ (n : Nat) (r q : List Int), r.length < q.length + m.length →
    ∃ s : Rat, 0 < s ∧ ∀ x, s * (evI q x * evI m x + evI r x) = evI (shGo m n r q).1 x * evI m x + evI (shGo m n r q).2 x
  | 0, r, q, _ => ⟨1, by decide, fun x => by show 1 * _ = evI q x * evI m x + evI r x; grind⟩
  | n + 1, r, q, h => by
    show ∃ s : Rat, 0 < s ∧ ∀ x, s * (evI q x * evI m x + evI r x) = evI (if m.length ≤ r.length then shGo m n (nextR m r) (nextQ m r q) else (q, r)).1 x * evI m x + evI (if m.length ≤ r.length then shGo m n (nextR m r) (nextQ m r q) else (q, r)).2 x
    by_cases hc : m.length ≤ r.length
    · rw [if_pos hc]
      have h1 := nextR_len m r
      obtain ⟨s, hs, k⟩ := shGo_ev hm hl n (nextR m r) (nextQ m r q) (by rw [nextQ_len]; omega)
      have hz : (0 : Int) < sizeOfI m := by unfold sizeOfI; omega
      have hz' : (0 : Rat) < (sizeOfI m : Rat) := Rat.intCast_pos.mpr hz
      refine ⟨s * sizeOfI m, Rat.mul_pos hs hz', fun x => ?_⟩
      rw [← k x, nextR_ev x hm hc, nextQ_ev x (by omega)]
      grind
    · rw [if_neg hc]
      exact ⟨1, by decide, fun x => by grind⟩
theorem shGo_len {m : List Int} (hm : m ≠ []) : ∀ (n : Nat) (r q : List Int), r.length < n + m.length → (shGo m n r q).2.length < m.length
  | 0, r, q, h => by
    show r.length < m.length
    omega
  | n + 1, r, q, h => by
    show (if m.length ≤ r.length then shGo m n (nextR m r) (nextQ m r q) else (q, r)).2.length < _
    have h0 := List.length_pos_iff.mpr hm
    by_cases hc : m.length ≤ r.length
    · rw [if_pos hc]
      have h1 := nextR_len m r
      exact shGo_len hm n _ _ (by omega)
    · rw [if_neg hc]
      show r.length < m.length
      omega
theorem evI_zeros (x : Rat) : ∀ n, evI (List.replicate n 0) x = 0
  | 0 => rfl
  | n + 1 => by
    rw [List.replicate_succ, evI_cons, evI_zeros x n]
    have : ((0 : Int) : Rat) = 0 := rfl
    grind
theorem trim_len (l : List Int) : (trim l).length ≤ l.length := by
  unfold trim
  rw [List.length_map, cut_len]
  exact manyOf_le _ _
theorem sh_ev {l m : List Int} (hm : m ≠ []) (hl : lastI m ≠ 0) : ∃ s a b : Rat, 0 < s ∧ 0 < a ∧ 0 < b ∧ ∀ x, s * evI l x = a * evI (sh l m).1 x * evI m x + b * evI (sh l m).2 x := by
  obtain ⟨s, hs, k⟩ := shGo_ev hm hl (l.length + 1) l (List.replicate (max 1 (l.length + 1 - m.length)) 0) (by rw [List.length_replicate]; omega)
  obtain ⟨a, ha, ka⟩ := evI_trim (shGo m (l.length + 1) l (List.replicate (max 1 (l.length + 1 - m.length)) 0)).1
  obtain ⟨b, hb, kb⟩ := evI_trim (shGo m (l.length + 1) l (List.replicate (max 1 (l.length + 1 - m.length)) 0)).2
  refine ⟨s, a, b, hs, ha, hb, fun x => ?_⟩
  have h := k x
  rw [evI_zeros, ka, kb] at h
  show _ = a * evI (trim _) x * evI m x + b * evI (trim _) x
  grind
theorem sh_len {l m : List Int} (hm : m ≠ []) : (sh l m).2.length < m.length :=
  Nat.lt_of_le_of_lt (trim_len _) (shGo_len hm _ _ _ (by omega))
theorem sh_norm (l m : List Int) : Norm (sh l m).1 ∧ Norm (sh l m).2 := ⟨trim_norm _, trim_norm _⟩
theorem trim_bd {l : List Int} {n : Nat} (h : Bd l n) : Bd (trim l) n := fun x hx => by
  obtain ⟨y, hy, rfl⟩ := List.mem_map.mp hx
  exact Nat.lt_of_le_of_lt (Int.natAbs_ediv_le_natAbs _ _) (cut_bd h y hy)
theorem shGo_bd {m : List Int} {b : Nat} (hm : m ≠ []) (hb : Bd m b) : ∀ (n a : Nat) (r q : List Int), Bd r a → Bd q a → Bd (shGo m n r q).1 (a + (r.length + 1 - m.length) * (b + 1)) ∧ Bd (shGo m n r q).2 (a + (r.length + 1 - m.length) * (b + 1))
  | 0, a, r, q, hr, hq => ⟨hq.mono (Nat.le_add_right _ _), hr.mono (Nat.le_add_right _ _)⟩
  | n + 1, a, r, q, hr, hq => by
    show Bd (if m.length ≤ r.length then shGo m n (nextR m r) (nextQ m r q) else (q, r)).1 _ ∧ Bd (if m.length ≤ r.length then shGo m n (nextR m r) (nextQ m r q) else (q, r)).2 _
    have h0 := List.length_pos_iff.mpr hm
    by_cases hc : m.length ≤ r.length
    · rw [if_pos hc]
      have h1 := nextR_len m r
      obtain ⟨i1, i2⟩ := shGo_bd hm hb n (a + (b + 1)) _ _ (nextR_bd hr hb) (nextQ_bd hq hr hb)
      have h2 : a + (b + 1) + ((nextR m r).length + 1 - m.length) * (b + 1) ≤ a + (r.length + 1 - m.length) * (b + 1) := by
        have h3 : ((nextR m r).length + 1 - m.length + 1) * (b + 1) ≤ (r.length + 1 - m.length) * (b + 1) := Nat.mul_le_mul_right _ (by omega)
        rw [Nat.succ_mul] at h3
        omega
      exact ⟨i1.mono h2, i2.mono h2⟩
    · rw [if_neg hc]
      exact ⟨hq.mono (Nat.le_add_right _ _), hr.mono (Nat.le_add_right _ _)⟩
theorem sh_bd {l m : List Int} {a b : Nat} (hm : m ≠ []) (ha : Bd l a) (hb : Bd m b) : Bd (sh l m).1 (a + (l.length + 1 - m.length) * (b + 1)) ∧ Bd (sh l m).2 (a + (l.length + 1 - m.length) * (b + 1)) := by
  obtain ⟨h1, h2⟩ := shGo_bd hm hb (l.length + 1) a l (List.replicate (max 1 (l.length + 1 - m.length)) 0) ha (fun x hx => by
    rw [List.eq_of_mem_replicate hx]
    exact Nat.pow_pos (by decide))
  exact ⟨trim_bd h1, trim_bd h2⟩
end Kq

set_option Elab.async false
set_option linter.all false
set_option maxRecDepth 100000
set_option maxHeartbeats 1000000
/-! signs, slopes and the least rows -/
namespace Kq
/-! ### signs -/
theorem sgR_int (z : Int) : sgR (z : Rat) = z.sign := by
  rcases Int.lt_trichotomy z 0 with h | h | h
  · rw [sgR_neg (by simpa using Rat.intCast_lt_intCast.mpr h), Int.sign_eq_neg_one_of_neg h]
  · rw [h, show ((0 : Int) : Rat) = 0 from rfl, sgR_zero]; rfl
  · rw [sgR_pos (Rat.intCast_pos.mpr h), Int.sign_eq_one_of_pos h]
theorem hom_ev {t b : Int} {x : Rat} (hx : x * (b : Rat) = (t : Rat)) : ∀ l : List Int, ((hom t b l).1 : Rat) * (b : Rat) = evI l x * pwr b l.length ∧ ((hom t b l).2 : Rat) = pwr b l.length
  | [] => ⟨by show ((0 : Int) : Rat) * _ = 0 * 1; have : ((0 : Int) : Rat) = 0 := rfl; grind, rfl⟩
  | c :: l => by
    obtain ⟨h1, h2⟩ := hom_ev hx l
    show (((hom t b l).1 * t + c * (hom t b l).2 : Int) : Rat) * (b : Rat) = evI (c :: l) x * pwr b (l.length + 1) ∧ (((hom t b l).2 * b : Int) : Rat) = pwr b (l.length + 1)
    rw [Rat.intCast_add, Rat.intCast_mul, Rat.intCast_mul, Rat.intCast_mul, evI_cons, pwr_succ]
    constructor <;> grind
theorem pwr_pos {y : Rat} (h : 0 < y) : ∀ n, 0 < pwr y n
  | 0 => by show (0 : Rat) < 1; decide
  | n + 1 => Rat.mul_pos (pwr_pos h n) h
theorem num_den (q : Rat) : q * ((q.den : Int) : Rat) = (q.num : Rat) := by
  have e := Rat.num_divInt_den q
  rw [Rat.divInt_eq_div] at e
  have e2 : ((q.den : Int) : Rat) = (q.den : Rat) := rfl
  rw [e2] at e ⊢
  have e3 := natCast_ne q.den_pos
  grind
theorem sgnAt_ev (l : List Int) (q : Rat) : sgnAt l q = sgR (evI l q) := by
  have h0 : (0 : Rat) < ((q.den : Int) : Rat) := Rat.intCast_pos.mpr (by have := q.den_pos; omega)
  obtain ⟨h1, _⟩ := hom_ev (num_den q) l
  have h2 : sgR ((((hom q.num (q.den : Int) l).1 : Int) : Rat) * ((q.den : Int) : Rat)) = sgR (evI l q * pwr ((q.den : Int) : Rat) l.length) := by rw [h1]
  rw [sgR_mul, sgR_mul, sgR_pos h0, sgR_pos (pwr_pos h0 _), Int.mul_one, Int.mul_one, sgR_int] at h2
  exact h2
theorem varAt_var (rows : List (List Int)) (q : Rat) : varAt rows q = var (rows.map evI) q := by
  unfold varAt var
  rw [List.map_map]
  congr 2
  exact List.map_congr_left fun l _ => sgnAt_ev l q
/-! ### slopes -/
def dvI (l : List Int) (x : Rat) : Rat := dv (l.map fun c : Int => (c : Rat)) x
theorem pd_evI (l : List Int) : PD (evI l) (dvI l) := pd_ev _
theorem derF_ev (x : Rat) : ∀ (k : Nat) (l : List Int), evI (derF k l) x = (k : Rat) * evI l x + x * dvI l x
  | k, [] => by show (0 : Rat) = (k : Rat) * 0 + x * 0; grind
  | k, c :: l => by
    show evI ((k : Int) * c :: derF (k + 1) l) x = (k : Rat) * (evI l x * x + (c : Rat)) + x * (dvI l x * x + evI l x)
    rw [evI_cons, derF_ev x (k + 1) l, Rat.intCast_mul]
    have e : ((k + 1 : Nat) : Rat) = (k : Rat) + 1 := by simp
    have e2 : ((k : Int) : Rat) = (k : Rat) := rfl
    rw [e, e2]
    grind
theorem slope0_ev (x : Rat) : ∀ l : List Int, evI ((derF 0 l).drop 1) x = dvI l x
  | [] => rfl
  | c :: l => by
    show evI (derF 1 l) x = dvI l x * x + evI l x
    rw [derF_ev]
    have e : ((1 : Nat) : Rat) = 1 := rfl
    rw [e]
    grind
theorem slope_ev (l : List Int) : ∃ c : Rat, 0 < c ∧ ∀ x, dvI l x = c * evI (slope l) x := by
  obtain ⟨k, hk, h⟩ := evI_trim ((derF 0 l).drop 1)
  exact ⟨k, hk, fun x => by rw [← slope0_ev]; exact h x⟩
theorem slope_len (l : List Int) : (slope l).length ≤ l.length - 1 := by
  unfold slope
  refine Nat.le_trans (trim_len _) ?_
  rw [List.length_drop, derF_len]
  exact Nat.le_refl _
theorem derF_bd : ∀ (l : List Int) (k n a : Nat), Bd l n → k + l.length ≤ 2 ^ a → Bd (derF k l) (n + a)
  | [], _, _, _, _, _ => fun x h => by cases h
  | c :: l, k, n, a, h, hk => fun x hx => by
    rw [List.length_cons] at hk
    rcases List.mem_cons.mp hx with rfl | hx
    · rw [Nat.add_comm n a]
      exact lt_pow_add (by omega) (h c List.mem_cons_self)
    · exact derF_bd l (k + 1) n a (fun y hy => h y (List.mem_cons_of_mem _ hy)) (by omega) x hx
theorem slope_bd {l : List Int} {n : Nat} (h : Bd l n) (hl : l.length ≤ 16) : Bd (slope l) (n + 4) :=
  trim_bd fun x hx => derF_bd l 0 n 4 h (by omega) x (List.mem_of_mem_drop hx)
theorem slope_norm (l : List Int) : Norm (slope l) := trim_norm _
theorem evI_zero {l : List Int} {N : Rat} (h : ∀ x, N ≤ x → evI l x = 0) : ∀ c ∈ l, c = 0 := fun c hc => by
  have h1 := ev_id h (c : Rat) (List.mem_map_of_mem hc)
  exact Rat.intCast_eq_zero_iff.mp h1
/-- no row but a constant is flat -/
theorem not_flat {l : List Int} (hl : 1 < l.length) (h : lastI l ≠ 0) {c : Rat} (k : ∀ x, evI l x = c) : False := by
  cases l with
  | nil => simp at hl
  | cons d l =>
    have hl' : l ≠ [] := fun e => by rw [e] at hl; simp at hl
    have h2 : lastI (d :: l) = lastI l := by
      unfold lastI
      have := List.length_pos_iff.mpr hl'
      rw [List.length_cons, show l.length + 1 - 1 = (l.length - 1) + 1 by omega]
      rfl
    rw [h2] at h
    have h3 : ∀ x, (1 : Rat) ≤ x → evI l x = 0 := fun x hx => by
      have a1 := k x
      have a2 := k 0
      rw [evI_cons] at a1 a2
      have a3 : evI l x * x = 0 := by grind
      rcases Rat.mul_eq_zero.mp a3 with z | z
      · exact z
      · grind
    exact h (evI_zero h3 _ (lastI_mem hl'))
theorem slope_ne {l : List Int} (hl : 1 < l.length) (h : lastI l ≠ 0) : slope l ≠ [] := fun e => by
  obtain ⟨c, _, k⟩ := slope_ev l
  rw [e] at k
  -- all below the first place vanish
  have h1 : ∀ x, evI ((derF 0 l).drop 1) x = 0 := fun x => by rw [slope0_ev, k x, evI_nil]; grind
  have h2 := evI_zero (N := 0) fun x _ => h1 x
  have e1 : l[l.length - 1]? = some (lastI l) := by
    unfold lastI
    rw [List.getD_eq_getElem?_getD, List.getElem?_eq_getElem (by omega)]
    rfl
  have e2 := derF_get 0 l (l.length - 1) _ e1
  have e3 : ((derF 0 l).drop 1)[l.length - 1 - 1]? = some (((0 + (l.length - 1) : Nat) : Int) * lastI l) := by
    rw [List.getElem?_drop, show 1 + (l.length - 1 - 1) = l.length - 1 by omega]
    exact e2
  have h3 := h2 _ (List.mem_of_getElem? e3)
  rcases Int.mul_eq_zero.mp h3 with z | z
  · omega
  · exact h z
/-! ### a least row is no larger than any other one of its kind -/
theorem prim_bd {l : List Int} {qs : List Rat} {D M : Nat} {k : Rat} (hn : Norm l) (hD : 0 < D) (hq : RBd D M qs) (e : ∀ x, evI l x = k * evQ qs x) : (∀ x ∈ l, x.natAbs ≤ M) ∧ l.length ≤ qs.length := by
  have h1 : ∀ i, ((l.getD i 0 : Int) : Rat) = k * qs.getD i 0 := fun i => by
    have h := ev_getD (l := l.map fun c : Int => (c : Rat)) (m := qs.map (k * ·)) (fun x => by rw [(smul_ev k qs x).1]; exact e x) i
    rw [List.getD_eq_getElem?_getD, List.getD_eq_getElem?_getD, List.getElem?_map, List.getElem?_map] at h
    rw [List.getD_eq_getElem?_getD, List.getD_eq_getElem?_getD]
    cases e1 : l[i]? <;> cases e2 : qs[i]? <;> rw [e1, e2] at h <;> simp only [Option.map_none, Option.map_some, Option.getD_none, Option.getD_some] at h ⊢
    · have : ((0 : Int) : Rat) = 0 := rfl
      grind
    · have : ((0 : Int) : Rat) = 0 := rfl
      grind
    · grind
    · exact h
  rcases hn with rfl | ⟨n1, n2⟩
  · exact ⟨fun x h => (by cases h), Nat.zero_le _⟩
  have hl : l ≠ [] := fun z => by
    rw [z] at n1
    exact n1 rfl
  have h0 := List.length_pos_iff.mpr hl
  refine ⟨?_, ?_⟩
  · -- the factor in lowest terms
    have hk0 : k ≠ 0 := fun z => by
      have h2 := h1 (l.length - 1)
      rw [z, Rat.zero_mul] at h2
      exact n1 (Rat.intCast_eq_zero_iff.mp h2)
    have hD' := natCast_ne hD
    generalize hw : k / (D : Rat) = w
    have hkw : k = w * D := by grind
    have hw0 : w ≠ 0 := by grind
    have h3 : ∀ i, ∃ z : Int, z.natAbs ≤ M ∧ (w.den : Int) * l.getD i 0 = w.num * z := fun i => by
      obtain ⟨z, hz, hb⟩ := getD_bq (i := i) hq
      refine ⟨z, hb, ?_⟩
      have h4 := h1 i
      rw [hz, hkw] at h4
      have h5 : ((l.getD i 0 : Int) : Rat) = w * (z : Rat) := by
        rw [h4]
        grind
      have h6 := num_den w
      have h7 : (((w.den : Int) * l.getD i 0 : Int) : Rat) = ((w.num * z : Int) : Rat) := by
        rw [Rat.intCast_mul, Rat.intCast_mul, h5, ← h6]
        grind
      exact Rat.intCast_inj.mp h7
    have h4 : ∀ x ∈ l, w.num ∣ x := fun x hx => by
      obtain ⟨i, hi, rfl⟩ := List.mem_iff_getElem.mp hx
      obtain ⟨z, _, hz⟩ := h3 i
      rw [List.getD_eq_getElem?_getD, List.getElem?_eq_getElem hi] at hz
      have c := w.reduced
      have hz' : (w.den : Int) * l[i] = w.num * z := hz
      have h5 := congrArg Int.natAbs hz'
      rw [Int.natAbs_mul, Int.natAbs_mul, Int.natAbs_natCast] at h5
      have h6 : w.num.natAbs ∣ w.den * l[i].natAbs := ⟨_, h5⟩
      exact Int.natAbs_dvd_natAbs.mp (Nat.Coprime.dvd_of_dvd_mul_left c h6)
    have h5 : w.num.natAbs ∣ cont l := dvd_fold l 0 (Nat.dvd_zero _) fun x hx => Int.natAbs_dvd.mpr (h4 x hx)
    rw [n2] at h5
    have h6 : w.num.natAbs = 1 := Nat.dvd_one.mp h5
    intro x hx
    obtain ⟨i, hi, rfl⟩ := List.mem_iff_getElem.mp hx
    obtain ⟨z, hz, he⟩ := h3 i
    rw [List.getD_eq_getElem?_getD, List.getElem?_eq_getElem hi] at he
    have he' : (w.den : Int) * l[i] = w.num * z := he
    have h7 := congrArg Int.natAbs he'
    rw [Int.natAbs_mul, Int.natAbs_mul, h6, Nat.one_mul, Int.natAbs_natCast] at h7
    have h8 : l[i].natAbs ≤ w.den * l[i].natAbs := Nat.le_mul_of_pos_left _ w.den_pos
    omega
  · have h2 := h1 (l.length - 1)
    refine Nat.le_of_not_lt fun z => ?_
    rw [List.getD_eq_getElem?_getD (l := qs), List.getElem?_eq_none (by omega)] at h2
    have h3 : ((lastI l : Int) : Rat) = 0 := by
      show ((l.getD (l.length - 1) 0 : Int) : Rat) = 0
      rw [h2]
      show k * 0 = 0
      grind
    exact n1 (Rat.intCast_eq_zero_iff.mp h3)
end Kq

set_option Elab.async false
set_option linter.all false
set_option maxRecDepth 100000
set_option maxHeartbeats 1000000
/-! the shared divisor and the chain: that they exist, and how large they are -/
namespace Kq
def Fit (L a b : Nat) : Prop := (7 * a + 17 * b + 24) * 17 ^ L ≤ 957000000 * 7 ^ L
theorem fit_num : ∀ g : Nat, 17 * 7 ^ (g + 1) ≤ 7 * 17 ^ (g + 1) ∧ (7 + 17 * (g + 2)) * 7 ^ (g + 1) ≤ 17 * 17 ^ (g + 1) ∧ (17 * (g + 2) + 24) * 7 ^ (g + 1) ≤ 24 * 17 ^ (g + 1)
  | 0 => by decide
  | g + 1 => by
    obtain ⟨h1, h2, h3⟩ := fit_num g
    have e7 : (7 : Nat) ^ (g + 1 + 1) = 7 * 7 ^ (g + 1) := by rw [Nat.pow_succ 7 (g + 1)]; omega
    have e17 : (17 : Nat) ^ (g + 1 + 1) = 17 * 17 ^ (g + 1) := by rw [Nat.pow_succ 17 (g + 1)]; omega
    rw [e7, e17]
    generalize (7 : Nat) ^ (g + 1) = x at *
    generalize (17 : Nat) ^ (g + 1) = y at *
    have m1 : (7 + 17 * (g + 1 + 2)) * (7 * x) ≤ 17 * ((7 + 17 * (g + 2)) * x) := by
      have : (7 + 17 * (g + 1 + 2)) * 7 ≤ 17 * (7 + 17 * (g + 2)) := by omega
      have := Nat.mul_le_mul_right x this
      grind
    have m2 : (17 * (g + 1 + 2) + 24) * (7 * x) ≤ 17 * ((17 * (g + 2) + 24) * x) := by
      have : (17 * (g + 1 + 2) + 24) * 7 ≤ 17 * (17 * (g + 2) + 24) := by omega
      have := Nat.mul_le_mul_right x this
      grind
    refine ⟨by omega, by omega, by omega⟩
theorem Fit.step {M g a b : Nat} (h : Fit (M + (g + 1)) a b) : Fit M b (a + (g + 2) * (b + 1)) := by
  unfold Fit at *
  obtain ⟨h1, h2, h3⟩ := fit_num g
  rw [Nat.pow_add 17 M (g + 1), Nat.pow_add 7 M (g + 1)] at h
  have hx : 0 < (7 : Nat) ^ (g + 1) := Nat.pow_pos (by decide)
  generalize (7 : Nat) ^ (g + 1) = x at *
  generalize (17 : Nat) ^ (g + 1) = y at *
  have p7 : 0 < (7 : Nat) ^ M := Nat.pow_pos (by decide)
  have k : (7 * b + 17 * (a + (g + 2) * (b + 1)) + 24) * x ≤ (7 * a + 17 * b + 24) * y := by
    have a1 := Nat.mul_le_mul_left a h1
    have a2 := Nat.mul_le_mul_left b h2
    grind
  have k2 := Nat.mul_le_mul_right (17 ^ M) k
  generalize (7 : Nat) ^ M = p at *
  generalize (17 : Nat) ^ M = q at *
  refine Nat.le_of_mul_le_mul_right (c := x) ?_ hx
  generalize 7 * b + 17 * (a + (g + 2) * (b + 1)) + 24 = u at *
  generalize 7 * a + 17 * b + 24 = v at *
  have e1 : u * q * x = u * x * q := by grind
  have e2 : v * (q * y) = v * y * q := by grind
  have e3 : 957000000 * p * x = 957000000 * (p * x) := Nat.mul_assoc _ _ _
  rw [e1, e3]
  rw [e2] at h
  exact Nat.le_trans k2 h
theorem Fit.small {M a b : Nat} (h : Fit M a b) (hM : 1 ≤ M) : a + b ≤ 56300000 ∧ b ≤ 24000000 := by
  unfold Fit at h
  obtain ⟨n, rfl⟩ : ∃ n, M = n + 1 := ⟨M - 1, by omega⟩
  rw [Nat.pow_succ, Nat.pow_succ] at h
  have p : (7 : Nat) ^ n ≤ 17 ^ n := Nat.pow_le_pow_left (by decide) n
  have p7 : 0 < (7 : Nat) ^ n := Nat.pow_pos (by decide)
  have h2 : (7 * a + 17 * b + 24) * 17 * 7 ^ n ≤ 957000000 * 7 * 7 ^ n := by
    have := Nat.mul_le_mul_left ((7 * a + 17 * b + 24) * 17) p
    grind
  have h3 := Nat.le_of_mul_le_mul_right h2 p7
  omega
theorem sh_ok {l m : List Int} {a b g : Nat} (hm : m ≠ []) (hl : l.length = m.length + (g + 1)) (h500 : l.length ≤ 500) (ha : Bd l a) (hb : Bd m b) (hf : Fit l.length a b) :
    ShOk l m ∧ Fit m.length b (a + (g + 2) * (b + 1)) ∧ Bd (sh l m).2 (a + (g + 2) * (b + 1)) := by
  have h0 := List.length_pos_iff.mpr hm
  rw [hl] at hf
  have f1 := hf.step
  have f2 := f1.small h0
  have e : l.length + 1 - m.length = g + 2 := by omega
  refine ⟨⟨hm, h500, by omega, a, b, ha, hb, by rw [e]; omega⟩, f1, ?_⟩
  have := (sh_bd hm ha hb).2
  rw [e] at this
  exact this
/-- the divisor that two rows share -/
theorem euc_ex : ∀ (N : Nat) (l m : List Int) (a b : Nat), m.length ≤ N → m.length < l.length → l.length ≤ 500 → lastI l ≠ 0 → Norm m → Bd l a → Bd m b → Fit l.length a b →
    ∃ n d, n ≤ N ∧ Euc n l m d ∧ (Norm d ∨ (m = [] ∧ d = l)) ∧ d ≠ [] ∧ lastI d ≠ 0 ∧ d.length ≤ l.length ∧ ∃ q1 q2 A B, PF q1 ∧ PF q2 ∧ PF A ∧ PF B ∧ (∀ x, evI l x = evI d x * q1 x) ∧ (∀ x, evI m x = evI d x * q2 x) ∧ ∀ x, A x * evI l x + B x * evI m x = evI d x
  | N, l, [], a, b, _, hlt, _, hl, _, _, _, _ => ⟨0, l, Nat.zero_le _, .nil l, .inr ⟨rfl, rfl⟩, (fun z => by rw [z] at hlt; simp at hlt), hl, Nat.le_refl _, fun _ => 1, fun _ => 0, fun _ => 1, fun _ => 0, pf_const 1, pf_const 0, pf_const 1, pf_const 0, fun x => by grind, fun x => by rw [evI_nil]; grind, fun x => by grind⟩
  | 0, l, c :: m, _, _, h, _, _, _, _, _, _, _ => by simp at h
  | N + 1, l, c :: m, a, b, hN, hlt, h500, hl, hm, ha, hb, hf => by
    have hm0 : c :: m ≠ [] := List.cons_ne_nil _ _
    have hml : lastI (c :: m) ≠ 0 := (hm.resolve_left hm0).1
    generalize c :: m = m' at *
    obtain ⟨g, hg⟩ : ∃ g, l.length = m'.length + (g + 1) := ⟨l.length - m'.length - 1, by omega⟩
    obtain ⟨ok, f1, rb⟩ := sh_ok hm0 hg h500 ha hb hf
    have hrl := sh_len (l := l) hm0
    have hrn := (sh_norm l m').2
    obtain ⟨n, d, hn, he, dnm, d0, dl, dlen, q1, q2, A, B, p1, p2, pA, pB, e1, e2, e3⟩ := euc_ex N m' (sh l m').2 b _ (by omega) hrl (by omega) hml hrn hb rb f1
    obtain ⟨s, u, v, hs, hu, hv, k⟩ := sh_ev (l := l) hm0 hml
    refine ⟨n + 1, d, by omega, .step ok he, .inl (dnm.elim id fun z => z.2 ▸ hm), d0, dl, by omega, fun x => s⁻¹ * (u * (evI (sh l m').1 x * q1 x) + v * q2 x), q1, fun x => s / v * B x, fun x => A x - u / v * (B x * evI (sh l m').1 x),
      ((((pf_evI _).mul p1).smul u).add (p2.smul v)).smul _, p1, pB.smul _, pA.sub ((pB.mul (pf_evI _)).smul _), fun x => ?_, e1, fun x => ?_⟩
    · have h1 := k x
      have h2 := e1 x
      have h3 := e2 x
      have hs' : s ≠ 0 := by grind
      have h4 : evI l x = s⁻¹ * (u * evI (sh l m').1 x * evI m' x + v * evI (sh l m').2 x) := by grind
      rw [h4, h2, h3]
      grind
    · have h1 := k x
      have h2 := e3 x
      have hv' : v ≠ 0 := by grind
      have h4 : evI (sh l m').2 x = v⁻¹ * (s * evI l x - u * evI (sh l m').1 x * evI m' x) := by grind
      rw [← h2, h4]
      grind
theorem lastI_neg {l : List Int} (h : l ≠ []) : lastI (l.map fun x => -x) = -lastI l := lastI_map _ h
theorem bd_neg {l : List Int} {n : Nat} (h : Bd l n) : Bd (l.map fun x => -x) n := fun x hx => by
  obtain ⟨y, hy, rfl⟩ := List.mem_map.mp hx
  rw [Int.natAbs_neg]
  exact h y hy
theorem ev_single {l : List Int} (h : l.length ≤ 1) (h0 : l ≠ []) (x : Rat) : evI l x = (lastI l : Rat) := by
  match l, h, h0 with
  | [c], _, _ =>
    rw [evI_cons, evI_nil]
    show 0 * x + (c : Rat) = (c : Rat)
    grind
/-- the chain of remainders -/
theorem rem_ex : ∀ (N : Nat) (l m : List Int) (a b : Nat), m.length ≤ N → m.length < l.length → l.length ≤ 500 → m ≠ [] → lastI m ≠ 0 → Bd l a → Bd m b → Fit l.length a b → Cop (evI l) (evI m) →
    ∃ n out, n ≤ N ∧ out.length ≤ N ∧ Rem n l m out ∧ Chain ((l :: m :: out).map evI) ∧ ∀ r ∈ m :: out, r.length ≤ l.length ∧ Bd r 56300000
  | 0, l, m, _, _, h, _, _, h0, _, _, _, _, _ => absurd (List.length_eq_zero_iff.mp (Nat.le_zero.mp h)) h0
  | N + 1, l, m, a, b, hN, hlt, h500, hm0, hml, ha, hb, hf, hc => by
    have hp := List.length_pos_iff.mpr hm0
    have hb2 : Bd m 56300000 := hb.mono (by have := hf.small (by omega); omega)
    have hm1 : ∀ r ∈ [m], r.length ≤ l.length ∧ Bd r 56300000 := fun r hr => by
      rw [List.mem_singleton.mp hr]
      exact ⟨by omega, hb2⟩
    by_cases h1 : m.length ≤ 1
    · exact ⟨0, [], Nat.zero_le _, Nat.zero_le _, .stop h1, .two (pf_evI l) (.one (c := (lastI m : Rat)) (fun z => hml (Rat.intCast_eq_zero_iff.mp z)) (ev_single h1 hm0)), hm1⟩
    obtain ⟨g, hg⟩ : ∃ g, l.length = m.length + (g + 1) := ⟨l.length - m.length - 1, by omega⟩
    obtain ⟨ok, f1, rb⟩ := sh_ok hm0 hg h500 ha hb hf
    have hrl := sh_len (l := l) hm0
    obtain ⟨s, u, v, hs, hu, hv, k⟩ := sh_ev (l := l) hm0 hml
    by_cases hr : (sh l m).2 = []
    · -- a divisor of both: it cannot be
      exfalso
      obtain ⟨A, B, pA, pB, e⟩ := hc
      rw [hr] at k
      have hu' : ∀ x, evI m x * (A x * (u / s * evI (sh l m).1 x) + B x) = 1 := fun x => by
        have h2 := e x
        have h3 := k x
        rw [evI_nil] at h3
        have hs' : s ≠ 0 := by grind
        have h4 : evI l x = u / s * evI (sh l m).1 x * evI m x := by grind
        rw [h4] at h2
        grind
      obtain ⟨c, _, hc⟩ := PF.unit (pf_evI m) ((pA.mul ((pf_evI _).smul _)).add pB) (by decide : (1 : Rat) ≠ 0) hu'
      exact not_flat (by omega) hml hc
    · have hrn : lastI (sh l m).2 ≠ 0 := ((sh_norm l m).2.resolve_left hr).1
      have hne : (sh l m).2.map (fun x => -x) ≠ [] := fun z => hr (List.map_eq_nil_iff.mp z)
      have hlen : ((sh l m).2.map fun x => -x).length = (sh l m).2.length := List.length_map _
      have hcop : Cop (evI m) (evI ((sh l m).2.map fun x => -x)) := by
        obtain ⟨A, B, pA, pB, e⟩ := hc
        refine ⟨fun x => B x + u / s * (A x * evI (sh l m).1 x), fun x => -(v / s) * A x, pB.add ((pA.mul (pf_evI _)).smul _), pA.smul _, fun x => ?_⟩
        have h2 := e x
        have h3 := k x
        have hs' : s ≠ 0 := by grind
        have h4 : evI l x = s⁻¹ * (u * evI (sh l m).1 x * evI m x + v * evI (sh l m).2 x) := by grind
        rw [h4] at h2
        rw [evI_neg]
        grind
      obtain ⟨n, out, hn, ho, hrem, hch, hall⟩ := rem_ex N m ((sh l m).2.map fun x => -x) b _ (by omega) (by omega) (by omega) hne (by rw [lastI_neg hr]; omega) hb (bd_neg rb) f1 hcop
      refine ⟨n + 1, ((sh l m).2.map fun x => -x) :: out, by omega, by rw [List.length_cons]; omega, .step (by omega) ok hr (by omega) hrem, ?_, fun r h => ?_⟩
      · exact .step (q := fun x => u * evI (sh l m).1 x) (a := s) (b := v) (pf_evI l) ((pf_evI _).smul u) hs hv (fun x => by
          have h3 := k x
          rw [evI_neg]
          grind) hch
      · rcases List.mem_cons.mp h with rfl | h
        · exact hm1 _ List.mem_cons_self
        · obtain ⟨h2, h3⟩ := hall r h
          exact ⟨by omega, h3⟩
end Kq

set_option Elab.async false
set_option linter.all false
set_option maxRecDepth 100000
set_option maxHeartbeats 1000000
/-! products of rows, as functions -/
namespace Kq
theorem evQ_snoc (x : Rat) (c : Rat) : ∀ l : List Rat, evQ (l ++ [c]) x = evQ l x + c * pwr x l.length
  | [] => by rw [List.nil_append, evQ_cons, evQ_nil]; show _ = 0 + c * 1; grind
  | d :: l => by
    rw [List.cons_append, evQ_cons, evQ_snoc x c l, evQ_cons, List.length_cons, pwr_succ]
    grind
theorem evQ_set (x : Rat) : ∀ (l : List Rat) (i : Nat) (v : Rat), i < l.length → evQ (l.set i v) x = evQ l x + (v - l.getD i 0) * pwr x i
  | [], _, _, h => by simp at h
  | d :: l, 0, v, _ => by
    show evQ (v :: l) x = _
    rw [evQ_cons, evQ_cons]
    show _ = evQ l x * x + d + (v - d) * 1
    grind
  | d :: l, i + 1, v, h => by
    show evQ (d :: l.set i v) x = _
    rw [evQ_cons, evQ_set x l i v (by simpa using h), evQ_cons, pwr_succ]
    show _ = evQ l x * x + d + (v - l.getD i 0) * (pwr x i * x)
    grind
theorem evQ_addAt (x : Rat) : ∀ (m l : List Rat) (n : Nat) (a : Rat), n + m.length ≤ l.length → evQ (addAt l n a m) x = evQ l x + a * pwr x n * evQ m x
  | [], l, n, a, _ => by
    show evQ l x = _
    rw [evQ_nil]
    grind
  | c :: m, l, n, a, h => by
    rw [List.length_cons] at h
    show evQ (addAt (l.set n (l.getD n 0 + a * c)) (n + 1) a m) x = _
    rw [evQ_addAt x m _ _ _ (by rw [List.length_set]; omega), evQ_set x l n _ (by omega), evQ_cons, pwr_succ]
    grind
theorem evQ_conv (x : Rat) (rs : List Rat) : ∀ (ps f : List Rat) (k : Nat), k + ps.length + rs.length ≤ f.length + 1 → evQ (conv f k ps rs) x = evQ f x + pwr x k * (evQ ps x * evQ rs x)
  | [], f, k, _ => by
    show evQ f x = _
    rw [evQ_nil]
    grind
  | a :: ps, f, k, h => by
    rw [List.length_cons] at h
    show evQ (conv (addAt f k a rs) (k + 1) ps rs) x = _
    rw [evQ_conv x rs ps _ _ (by rw [addAt_len]; omega), evQ_addAt x rs f k a (by omega), evQ_cons, pwr_succ]
    grind
theorem evQ_zeros (x : Rat) : ∀ n, evQ (List.replicate n 0) x = 0
  | 0 => rfl
  | n + 1 => by
    rw [List.replicate_succ, evQ_cons, evQ_zeros x n]
    grind
theorem evQ_take (x : Rat) (l : List Rat) : ∀ n, n ≤ l.length → evQ (l.take (manyQ l n)) x = evQ (l.take n) x
  | 0, _ => rfl
  | n + 1, h => by
    unfold manyQ
    split
    · rename_i h0
      rw [evQ_take x l n (by omega), List.take_add_one, h0]
      show _ = evQ (l.take n ++ [0]) x
      rw [evQ_snoc]
      grind
    · rfl
theorem evQ_trimQ (x : Rat) (l : List Rat) : evQ (trimQ l) x = evQ l x := by
  unfold trimQ
  rw [evQ_take x l _ (Nat.le_refl _), List.take_length]
theorem evQ_mulQ (x : Rat) (ps rs : List Rat) : evQ (mulQ ps rs) x = evQ ps x * evQ rs x := by
  unfold mulQ
  split
  · rename_i h
    rcases h with h | h <;> rw [h, evQ_nil] <;> grind
  · rename_i h
    have h1 := List.length_pos_iff.mpr fun e => h (.inl e)
    have h2 := List.length_pos_iff.mpr fun e => h (.inr e)
    rw [evQ_trimQ, evQ_conv x rs ps _ 0 (by rw [List.length_replicate]; omega), evQ_zeros]
    show 0 + 1 * _ = _
    grind
/-! ### products -/
def prodE : List (List Rat) → Rat → Rat
  | [], _ => 1
  | t :: ts, x => evQ t x * prodE ts x
theorem prodE_app (x : Rat) (us : List (List Rat)) : ∀ ts, prodE (ts ++ us) x = prodE ts x * prodE us x
  | [] => by show prodE us x = 1 * _; grind
  | t :: ts => by
    show evQ t x * prodE (ts ++ us) x = evQ t x * prodE ts x * prodE us x
    rw [prodE_app x us ts]
    grind
theorem prodE_rep (x : Rat) (t : List Rat) : ∀ n, prodE (List.replicate n t) x = pwr (evQ t x) n
  | 0 => rfl
  | n + 1 => by
    rw [List.replicate_succ]
    show evQ t x * prodE (List.replicate n t) x = pwr (evQ t x) n * evQ t x
    rw [prodE_rep x t n]
    grind
/-- a product as a row that is not too large -/
theorem prod_row : ∀ ts : List (List Rat), (∀ t ∈ ts, FacB t) → ts.length ≤ 20 → ∃ l D M, 0 < D ∧ RBd D M l ∧ M ≤ 2 ^ (36 * ts.length) ∧ l.length ≤ 3 * ts.length + 1 ∧ ∀ x, evQ l x = prodE ts x
  | [], _, _ => ⟨[1], 1, 1, by decide, fun q hq => by
      rw [List.mem_singleton.mp hq]
      exact bq_int 1 (by decide) (by decide), by decide, by simp, fun x => by rw [evQ_cons, evQ_nil]; show _ = (1 : Rat); grind⟩
  | t :: ts, h, hl => by
    rw [List.length_cons] at hl ⊢
    obtain ⟨l, D, M, hD, hR, hM, hlen, he⟩ := prod_row ts (fun u hu => h u (List.mem_cons_of_mem _ hu)) (by omega)
    obtain ⟨lf, E, N, hE, _, hN, hF⟩ := h t List.mem_cons_self
    refine ⟨mulQ l t, D * E, _, Nat.mul_pos hD hE, mulQ_bd hD hE hR hF, ?_, ?_, fun x => ?_⟩
    · have h1 : l.length * (M * N) ≤ 2 ^ 6 * (2 ^ (36 * ts.length) * 2 ^ 30) := Nat.mul_le_mul (by omega) (Nat.mul_le_mul hM hN)
      rw [← Nat.pow_add, ← Nat.pow_add] at h1
      have e : 6 + (36 * ts.length + 30) = 36 * (ts.length + 1) := by omega
      rw [e] at h1
      exact h1
    · have := mulQ_len l t
      omega
    · rw [evQ_mulQ, he]
      show _ = evQ t x * prodE ts x
      grind
theorem Pf_prod (x : Rat) : ∀ gs : List Fac, Pf gs x = prodE (gs.map (·.1)) x
  | [] => rfl
  | p :: gs => by
    show evQ p.1 x * Pf gs x = evQ p.1 x * prodE (gs.map (·.1)) x
    rw [Pf_prod x gs]
def reps : List Fac → List (List Rat)
  | [] => []
  | p :: gs => List.replicate (p.2 - 1) p.1 ++ reps gs
theorem Df_prod (x : Rat) : ∀ gs : List Fac, Df gs x = prodE (reps gs) x
  | [] => rfl
  | p :: gs => by
    show pwr (evQ p.1 x) (p.2 - 1) * Df gs x = prodE (List.replicate (p.2 - 1) p.1 ++ reps gs) x
    rw [prodE_app, prodE_rep, Df_prod x gs]
theorem reps_mem : ∀ {gs : List Fac} {t : List Rat}, t ∈ reps gs → ∃ p ∈ gs, p.1 = t
  | p :: gs, t, h => by
    rcases List.mem_append.mp h with h | h
    · exact ⟨p, List.mem_cons_self, (List.eq_of_mem_replicate h).symm⟩
    · obtain ⟨q, hq, e⟩ := reps_mem h
      exact ⟨q, List.mem_cons_of_mem _ hq, e⟩
theorem Pf_app (x : Rat) (hs : List Fac) : ∀ gs, Pf (gs ++ hs) x = Pf gs x * Pf hs x
  | [] => by show Pf hs x = 1 * _; grind
  | p :: gs => by
    show evQ p.1 x * Pf (gs ++ hs) x = evQ p.1 x * Pf gs x * Pf hs x
    rw [Pf_app x hs gs]
    grind
theorem Ff_app (x : Rat) (hs : List Fac) : ∀ gs, Ff (gs ++ hs) x = Ff gs x * Ff hs x
  | [] => by show Ff hs x = 1 * _; grind
  | p :: gs => by
    show pwr (evQ p.1 x) p.2 * Ff (gs ++ hs) x = pwr (evQ p.1 x) p.2 * Ff gs x * Ff hs x
    rw [Ff_app x hs gs]
    grind
def kd (f : List Rat) (n : Nat) : List Fac := if n = 0 then [] else [(f, n)]
theorem prim_rows {l : List Int} {ts : List (List Rat)} {k : Rat} (hn : Norm l) (hb : ∀ t ∈ ts, FacB t) (hl : ts.length ≤ 20) (e : ∀ x, evI l x = k * prodE ts x) : Bd l (36 * ts.length + 1) := by
  obtain ⟨qs, D, M, hD, hR, hM, _, he⟩ := prod_row ts hb hl
  have h := (prim_bd hn hD hR (k := k) fun x => by rw [e, he]).1
  exact fun x hx => Nat.lt_of_le_of_lt (Nat.le_trans (h x hx) hM) (Nat.pow_lt_pow_right (by decide) (by omega))
/-! ### ends -/
theorem evI_at0 (l : List Int) : evI l 0 = ((l.headD 0 : Int) : Rat) := by
  cases l with
  | nil => rfl
  | cons c l => rw [evI_cons, Rat.mul_zero, Rat.zero_add]; rfl
theorem evI_at1 : ∀ l : List Int, evI l 1 = ((l.sum : Int) : Rat)
  | [] => rfl
  | c :: l => by
    rw [evI_cons, evI_at1 l, List.sum_cons, Rat.intCast_add]
    grind
theorem sh_qlen (l m : List Int) : (sh l m).1.length ≤ max 1 (l.length + 1 - m.length) := by
  have h : ∀ n r q, (shGo m n r q).1.length = q.length := by
    intro n
    induction n with
    | zero => intro r q; rfl
    | succ n ih =>
      intro r q
      show (if m.length ≤ r.length then shGo m n (nextR m r) (nextQ m r q) else (q, r)).1.length = _
      split
      · rw [ih, nextQ_len]
      · rfl
  refine Nat.le_trans (trim_len _) ?_
  rw [h, List.length_replicate]
  exact Nat.le_refl _
theorem kd_Pf (f : List Rat) (n : Nat) (x : Rat) : Pf (kd f n) x = if n = 0 then 1 else evQ f x := by
  unfold kd
  split
  · rfl
  · show evQ f x * 1 = _
    grind
end Kq

set_option Elab.async false
set_option linter.all false
set_option maxRecDepth 100000
set_option maxHeartbeats 1000000
/-! single zeros, plain -/
namespace Kq
/-! ### the last place of a product -/
theorem addL_getD : ∀ (l m : List Rat) (i : Nat), (addL l m).getD i 0 = l.getD i 0 + m.getD i 0
  | [], m, i => by simp only [addL, List.getD_nil]; grind
  | a :: l, [], i => by simp only [addL, List.getD_nil]; grind
  | a :: l, b :: m, 0 => rfl
  | a :: l, b :: m, i + 1 => addL_getD l m i
theorem smul_getD (c : Rat) : ∀ (l : List Rat) (i : Nat), (l.map (c * ·)).getD i 0 = c * l.getD i 0
  | [], i => by simp only [List.map_nil, List.getD_nil]; grind
  | a :: l, 0 => rfl
  | a :: l, i + 1 => smul_getD c l i
def mulL : List Rat → List Rat → List Rat
  | [], _ => []
  | c :: l, m => addL (m.map (c * ·)) (0 :: mulL l m)
theorem mulL_ev (m : List Rat) (x : Rat) : ∀ l, evQ (mulL l m) x = evQ l x * evQ m x
  | [] => by show (0 : Rat) = 0 * _; grind
  | c :: l => by
    show evQ (addL (m.map (c * ·)) (0 :: mulL l m)) x = _
    rw [(addL_ev _ _ x).1, (smul_ev c m x).1, evQ_cons, evQ_cons, mulL_ev m x l]
    grind
theorem mulL_last (m : List Rat) (hm : m ≠ []) : ∀ (l : List Rat), l ≠ [] → (mulL l m).getD (l.length - 1 + (m.length - 1)) 0 = l.getD (l.length - 1) 0 * m.getD (m.length - 1) 0
  | [], h => absurd rfl h
  | [c], _ => by
    show (addL (m.map (c * ·)) [0]).getD (0 + (m.length - 1)) 0 = c * _
    rw [addL_getD, smul_getD, Nat.zero_add]
    have : ([0] : List Rat).getD (m.length - 1) 0 = 0 := by
      rw [List.getD_eq_getElem?_getD]
      cases m.length - 1 <;> rfl
    rw [this]
    grind
  | c :: d :: l, _ => by
    have h0 := List.length_pos_iff.mpr hm
    have ih := mulL_last m hm (d :: l) (List.cons_ne_nil _ _)
    show (addL (m.map (c * ·)) (0 :: mulL (d :: l) m)).getD ((d :: l).length + (m.length - 1)) 0 = (d :: l).getD ((d :: l).length - 1) 0 * _
    rw [addL_getD, smul_getD, ← ih]
    have e1 : m.getD ((d :: l).length + (m.length - 1)) 0 = 0 := by
      rw [List.getD_eq_getElem?_getD, List.getElem?_eq_none (by rw [List.length_cons]; omega)]
      rfl
    have e2 : (d :: l).length + (m.length - 1) = ((d :: l).length - 1 + (m.length - 1)) + 1 := by rw [List.length_cons]; omega
    rw [e1, e2]
    show c * 0 + (mulL (d :: l) m).getD _ 0 = _
    grind
theorem trimQ_last {l : List Rat} (h : trimQ l ≠ []) : (trimQ l).getD ((trimQ l).length - 1) 0 ≠ 0 := by
  have key : ∀ n, n ≤ l.length → 0 < manyQ l n → l[manyQ l n - 1]? ≠ some 0 := by
    intro n
    induction n with
    | zero => intro _ h; simp [manyQ] at h
    | succ n ih =>
      intro hn h
      unfold manyQ at h ⊢
      split at h
      · rename_i e
        rw [if_pos e]
        exact ih (by omega) h
      · rename_i e
        rw [if_neg e]
        exact e
  have hlen : (trimQ l).length = manyQ l l.length := by
    unfold trimQ
    rw [List.length_take]
    have := manyQ_le l l.length
    omega
  have h0 : 0 < manyQ l l.length := by rw [← hlen]; exact List.length_pos_iff.mpr h
  have hk := key l.length (Nat.le_refl _) h0
  have hle := manyQ_le l l.length
  rw [hlen, List.getD_eq_getElem?_getD]
  unfold trimQ
  rw [List.getElem?_take, if_pos (by omega), List.getElem?_eq_getElem (by omega)]
  intro z
  rw [List.getElem?_eq_getElem (by omega)] at hk
  exact hk (congrArg some z)
/-- a shorter row is no multiple of a longer one -/
theorem short_zero {d r : List Int} {w : Rat → Rat} {b : Rat} (hb : b ≠ 0) (hd : d ≠ []) (hl : lastI d ≠ 0) (hr : r.length < d.length) (pw : PF w) (e : ∀ x, evI d x * w x = b * evI r x) (x : Rat) : evI r x = 0 := by
  obtain ⟨g, wl, hw⟩ := pw
  by_cases hz : trimQ wl = []
  · have h1 := e x
    rw [(hw x).1, ← evQ_trimQ, hz, evQ_nil] at h1
    have h2 : b * evI r x = 0 := by grind
    rcases Rat.mul_eq_zero.mp h2 with z | z
    · exact absurd z hb
    · exact z
  · exfalso
    have hw0 := List.length_pos_iff.mpr hz
    have hd0 := List.length_pos_iff.mpr hd
    have h1 := ev_getD (l := mulL (d.map fun c : Int => (c : Rat)) (trimQ wl)) (m := (r.map fun c : Int => (c : Rat)).map (b * ·)) (fun y => by
      rw [mulL_ev, (smul_ev b _ y).1, evQ_trimQ, ← (hw y).1]
      exact e y) (d.length - 1 + ((trimQ wl).length - 1))
    have h2 := mulL_last (trimQ wl) hz (d.map fun c : Int => (c : Rat)) (fun z => hd (List.map_eq_nil_iff.mp z))
    rw [List.length_map] at h2
    rw [h2, smul_getD] at h1
    have h3 : (d.map fun c : Int => (c : Rat)).getD (d.length - 1) 0 = (lastI d : Rat) := by
      unfold lastI
      rw [List.getD_eq_getElem?_getD, List.getD_eq_getElem?_getD, List.getElem?_map, List.getElem?_eq_getElem (by omega)]
      rfl
    have h4 : (r.map fun c : Int => (c : Rat)).getD (d.length - 1 + ((trimQ wl).length - 1)) 0 = 0 := by
      rw [List.getD_eq_getElem?_getD, List.getElem?_eq_none (by rw [List.length_map]; omega)]
      rfl
    rw [h3, h4] at h1
    have h5 : (lastI d : Rat) * (trimQ wl).getD ((trimQ wl).length - 1) 0 = 0 := by rw [h1]; grind
    rcases Rat.mul_eq_zero.mp h5 with z | z
    · exact hl (Rat.intCast_eq_zero_iff.mp z)
    · exact trimQ_last hz z
/-- a quotient without rest -/
theorem sh_exact {l d : List Int} {q : Rat → Rat} (hd : d ≠ []) (hl : lastI d ≠ 0) (pq : PF q) (e : ∀ x, evI l x = evI d x * q x) : ∃ k : Rat, 0 < k ∧ ∀ x, evI (sh l d).1 x = k * q x := by
  obtain ⟨s, a, b, hs, ha, hb, k⟩ := sh_ev (l := l) hd hl
  have z := short_zero (w := fun x => s * q x - a * evI (sh l d).1 x) (b := b) (by grind) hd hl (sh_len (l := l) hd) ((pq.smul s).sub ((pf_evI _).smul a)) fun x => by
    have := k x
    have := e x
    grind
  refine ⟨s / a, by rw [Rat.div_def]; exact Rat.mul_pos hs (Rat.inv_pos.mpr ha), fun x => ?_⟩
  refine PF.cancel (f := evI d) (pf_evI d) (pf_evI _) (pq.smul _) (fun y => ?_) (fun y => ?_) x
  · exact hl (evI_zero (N := 0) (fun x _ => y x) _ (lastI_mem hd))
  · have h1 := k y
    have h2 := e y
    rw [z y] at h1
    have ha' : a ≠ 0 := by grind
    grind
theorem norm_ne {l : List Int} (h : Norm l) {x : Rat} (hx : evI l x ≠ 0) : l ≠ [] ∧ lastI l ≠ 0 := by
  rcases h with rfl | h
  · exact absurd rfl hx
  · refine ⟨fun e => ?_, h.1⟩
    rw [e] at h
    exact h.1 rfl
theorem fit13 : ∀ L, L < 14 → Fit L 386 390 := by
  unfold Fit
  decide
/-- the first part of single_zeros -/
theorem sz1_ex {F : List Int} {gs : List Fac} {c : Rat} (hc : c ≠ 0) (hF : ∀ x, evI F x = c * Ff gs x) (hd : Dist gs) (h0 : F ≠ []) (hn : lastI F ≠ 0) (nF : Norm F) (hl : F.length ≤ 13) (hb : Bd F 386) (hfb : ∀ p ∈ gs, FacB p.1) (hr : (reps gs).length ≤ 10) :
    ∃ f k, SZ1 F f ∧ Norm f ∧ f.length ≤ 13 ∧ k ≠ 0 ∧ ∀ x, evI f x = k * Pf gs x := by
  have hp := List.length_pos_iff.mpr h0
  by_cases h1 : F.length = 1
  · have h2 : ∀ x, Pf gs x * (c * Df gs x) = (lastI F : Rat) := fun x => by
      rw [← ev_single (by omega) h0 x, hF, Ff_eq hd]
      grind
    have hz : (lastI F : Rat) ≠ 0 := fun z => hn (Rat.intCast_eq_zero_iff.mp z)
    obtain ⟨k, hk, e⟩ := PF.unit (pf_Pf gs) ((pf_Df gs).smul c) hz h2
    refine ⟨F, (lastI F : Rat) / k, .one h1, nF, hl, by grind, fun x => ?_⟩
    rw [ev_single (by omega) h0 x, e x]
    grind
  · have hs := slope_ne (by omega) hn
    have hsl := slope_len F
    have hsn := slope_norm F
    obtain ⟨n, d, hN, he, dnm, d0, dl, dlen, q1, q2, A, B, p1, p2, pA, pB, e1, e2, e3⟩ := euc_ex F.length F (slope F) 386 390 (by omega) (by omega) (by omega) hn hsn hb (slope_bd hb (by omega)) (fit13 _ (by omega))
    obtain ⟨cs, hcs, es⟩ := slope_ev F
    have nz : ¬ ∀ x, evI F x = 0 := fun z => hn (evI_zero (N := 0) (fun x _ => z x) _ (lastI_mem h0))
    have ndz : ¬ ∀ x, evI d x = 0 := fun z => nz fun x => by rw [e1, z]; grind
    obtain ⟨k, hk, ek⟩ := gcd_is hd hc hF (pd_evI F) (pf_evI d) p1 (p2.smul cs) pA (pB.smul (cs⁻¹)) nz e1 (fun x => by rw [es, e2]; grind) (fun x => by
      have := e3 x
      rw [es]
      have hcs' : cs ≠ 0 := by grind
      grind)
    obtain ⟨k2, hk2, ek2⟩ := sh_exact d0 dl p1 e1
    -- how large the divisor is
    have hFD : ∀ x, evI d x = c / k * prodE (reps gs) x := fun x => by
      refine PF.cancel (f := Pf gs) (pf_Pf gs) (pf_evI d) ((pf_Df gs).smul (c / k) |>.congr fun x => by rw [Df_prod]) (fun z => nz fun x => by rw [hF, Ff_eq hd, z]; grind) (fun y => ?_) x
      have a1 := e1 y
      rw [ek, hF, Ff_eq hd] at a1
      rw [← Df_prod]
      grind
    have dn : Bd d 386 := (prim_rows (dnm.resolve_right fun z => hs z.1) (fun t ht => by
      obtain ⟨p, hp, e⟩ := reps_mem ht
      rw [← e]
      exact hfb p hp) (by omega) hFD).mono (by omega)
    refine ⟨(sh F d).1, k2 * k, .more (by omega) (fun x hx => hb.sm (by decide) hx) (he) ⟨d0, by omega, by omega, 386, 386, hb, dn, ?_⟩, (sh_norm F d).1, ?_, by grind, fun x => by rw [ek2, ek]; grind⟩
    · have : (F.length + 1 - d.length) * 387 ≤ 14 * 387 := Nat.mul_le_mul_right _ (by omega)
      omega
    · have := sh_qlen F d
      have := List.length_pos_iff.mpr d0
      omega
end Kq

set_option Elab.async false
set_option linter.all false
set_option maxRecDepth 100000
set_option maxHeartbeats 1000000
/-! single zeros, plain: without 0 and 1 -/
namespace Kq
theorem evQ_p (x : Rat) : evQ [0, 1] x = x := by rw [evQ_cons, evQ_cons, evQ_nil]; grind
theorem evQ_q (x : Rat) : evQ [1, -1] x = 1 - x := by rw [evQ_cons, evQ_cons, evQ_nil]; grind
theorem evI_m1 (x : Rat) : evI [-1, 1] x = x - 1 := by
  rw [evI_cons, evI_cons, evI_nil]
  have : ((-1 : Int) : Rat) = -1 := rfl
  have : ((1 : Int) : Rat) = 1 := rfl
  grind
def ends (n1 n2 : Nat) (gs : List Fac) : List Fac := kd [0, 1] n1 ++ (kd [1, -1] n2 ++ gs)
theorem ends_Pf (n1 n2 : Nat) (gs : List Fac) (x : Rat) : Pf (ends n1 n2 gs) x = (if n1 = 0 then 1 else x) * ((if n2 = 0 then 1 else 1 - x) * Pf gs x) := by
  unfold ends
  rw [Pf_app, Pf_app, kd_Pf, kd_Pf, evQ_p, evQ_q]
theorem noZero_ok {f1 : List Int} {n1 : Nat} {g : Rat → Rat} (pg : PF g) (h0 : f1 ≠ []) (hn : Norm f1) (e : ∀ x, evI f1 x = (if n1 = 0 then 1 else x) * g x) (g0 : g 0 ≠ 0) :
    Norm (noZero f1) ∧ (∀ x, evI (noZero f1) x = g x) ∧ (noZero f1).length ≤ f1.length ∧ ∀ x ∈ noZero f1, x ∈ f1 := by
  have a0 := evI_at0 f1
  rw [e] at a0
  by_cases h1 : n1 = 0
  · rw [if_pos h1] at a0
    have hh : f1.head? ≠ some 0 := fun z => by
      cases f1 with
      | nil => exact h0 rfl
      | cons c f =>
        have : c = 0 := Option.some.inj z
        rw [this] at a0
        have h2 : (1 : Rat) * g 0 = 0 := a0
        grind
    have en : noZero f1 = f1 := if_neg hh
    rw [en]
    exact ⟨hn, fun x => by rw [e, if_pos h1]; grind, Nat.le_refl _, fun _ h => h⟩
  · rw [if_neg h1] at a0
    cases f1 with
    | nil => exact absurd rfl h0
    | cons c f =>
      have hc : c = 0 := by
        have h2 : 0 * g 0 = (c : Rat) := a0
        exact Rat.intCast_eq_zero_iff.mp (by rw [← h2]; grind)
      subst hc
      have en : noZero ((0 : Int) :: f) = f := if_pos rfl
      rw [en]
      have ev : ∀ x, evI f x = g x := fun x => by
        refine PF.cancel (f := fun x => x) pf_x (pf_evI f) pg (fun z => by have := z 1; grind) (fun y => ?_) x
        have h2 := e y
        rw [if_neg h1, evI_cons] at h2
        have : ((0 : Int) : Rat) = 0 := rfl
        grind
      have hf : f ≠ [] := fun z => by
        have h2 := ev 0
        rw [z, evI_nil] at h2
        exact g0 h2.symm
      refine ⟨.inr ⟨?_, ?_⟩, ev, by rw [List.length_cons]; omega, fun x h => List.mem_cons_of_mem _ h⟩
      · have h2 : lastI (0 :: f) = lastI f := by
          unfold lastI
          have := List.length_pos_iff.mpr hf
          rw [List.length_cons, show f.length + 1 - 1 = (f.length - 1) + 1 by omega]
          rfl
        rw [← h2]
        exact (hn.resolve_left (List.cons_ne_nil _ _)).1
      · exact (hn.resolve_left (List.cons_ne_nil _ _)).2
theorem noOne_ok {f2 : List Int} {n2 : Nat} {g : Rat → Rat} (pg : PF g) (hn : Norm f2) (e : ∀ x, evI f2 x = (if n2 = 0 then 1 else 1 - x) * g x) (g1 : g 1 ≠ 0) (h1 : 1 ≤ f2.length) :
    ∃ k : Rat, k ≠ 0 ∧ Norm (noOne f2) ∧ (∀ x, evI (noOne f2) x = k * g x) ∧ (noOne f2).length ≤ f2.length := by
  have a1 := evI_at1 f2
  rw [e] at a1
  by_cases h2 : n2 = 0
  · rw [if_pos h2] at a1
    have hs : f2.sum ≠ 0 := fun z => by
      rw [z] at a1
      have h3 : (1 : Rat) * g 1 = 0 := a1
      grind
    have en : noOne f2 = f2 := if_neg hs
    rw [en]
    exact ⟨1, by decide, hn, fun x => by rw [e, if_pos h2], Nat.le_refl _⟩
  · rw [if_neg h2] at a1
    have hs : f2.sum = 0 := by
      have h3 : (1 - 1 : Rat) * g 1 = ((f2.sum : Int) : Rat) := a1
      exact Rat.intCast_eq_zero_iff.mp (by rw [← h3]; grind)
    have en : noOne f2 = (sh f2 [-1, 1]).1 := if_pos hs
    rw [en]
    obtain ⟨k, hk, ek⟩ := sh_exact (l := f2) (d := [-1, 1]) (q := fun x => -1 * g x) (by simp) (by decide) (pg.smul _) fun x => by rw [e, if_neg h2, evI_m1]; grind
    refine ⟨-k, by grind, (sh_norm f2 _).1, fun x => by rw [ek]; grind, ?_⟩
    have := sh_qlen f2 [-1, 1]
    rw [show ([-1, 1] : List Int).length = 2 from rfl] at this
    omega
theorem sz_ex {F : List Int} {n1 n2 : Nat} {gs : List Fac} {c : Rat} (hc : c ≠ 0) (hF : ∀ x, evI F x = c * Ff (ends n1 n2 gs) x) (hd : Dist (ends n1 n2 gs)) (nF : Norm F) (h0 : F ≠ []) (hl : F.length ≤ 13) (hb : Bd F 386)
    (hfb : ∀ p ∈ ends n1 n2 gs, FacB p.1) (hr : (reps (ends n1 n2 gs)).length ≤ 10) (hg : (ends n1 n2 gs).length ≤ 5) (g0 : Pf gs 0 ≠ 0) (g1 : Pf gs 1 ≠ 0) :
    ∃ f k, SZ F f ∧ k ≠ 0 ∧ Norm f ∧ f ≠ [] ∧ f.length ≤ 13 ∧ Bd f 181 ∧ ∀ x, evI f x = k * Pf gs x := by
  obtain ⟨f1, k, sz, n1', l1, hk, e1⟩ := sz1_ex hc hF hd h0 (nF.resolve_left h0).1 nF hl hb hfb hr
  have b1 : Bd f1 361 := (prim_rows n1' (ts := (ends n1 n2 gs).map (·.1)) (k := k) (fun t ht => by
    obtain ⟨p, hp, rfl⟩ := List.mem_map.mp ht
    exact hfb p hp) (by rw [List.length_map]; omega) fun x => by rw [e1, Pf_prod]).mono (by rw [List.length_map]; omega)
  have f10 : f1 ≠ [] := by
    -- at a place between 0 and 1, or anywhere it is not zero
    intro z
    have h3 : ∀ x, Pf (ends n1 n2 gs) x = 0 := fun x => by
      have := e1 x
      rw [z, evI_nil] at this
      grind
    have h4 : ∀ x, evI F x = 0 := fun x => by rw [hF, Ff_eq hd, h3]; grind
    exact (nF.resolve_left h0).1 (evI_zero (N := 0) (fun x _ => h4 x) _ (lastI_mem h0))
  have pg2 : PF fun x => (if n2 = 0 then 1 else 1 - x) * Pf gs x := by
    refine PF.mul ?_ (pf_Pf gs)
    by_cases h : n2 = 0
    · exact (pf_const 1).congr fun x => if_pos h
    · exact ((pf_const 1).sub pf_x).congr fun x => if_neg h
  obtain ⟨m2, e2, l2, s2⟩ := noZero_ok (n1 := n1) (g := fun x => k * ((if n2 = 0 then 1 else 1 - x) * Pf gs x)) (pg2.smul k) f10 n1' (fun x => by rw [e1, ends_Pf]; grind) (by
    by_cases h : n2 = 0
    · rw [if_pos h]; grind
    · rw [if_neg h]; grind)
  have f20 : 1 ≤ (noZero f1).length := List.length_pos_iff.mpr fun z => by
    have h3 := e2 0
    rw [z, evI_nil] at h3
    by_cases h : n2 = 0
    · rw [if_pos h] at h3; grind
    · rw [if_neg h] at h3; grind
  obtain ⟨k3, hk3, m3, e3, l3⟩ := noOne_ok (n2 := n2) (g := fun x => k * Pf gs x) ((pf_Pf gs).smul k) m2 (fun x => by rw [e2]; grind) (by grind) f20
  refine ⟨noOne (noZero f1), k3 * k, ⟨by omega, f1, sz, f10, by omega, fun _ => ?_, rfl⟩, by grind, m3, fun z => ?_, by omega, ?_, fun x => by rw [e3]; grind⟩
  · refine ⟨by simp, by omega, by decide, 361, 1, fun x hx => b1 x (s2 x hx), fun x hx => ?_, ?_⟩
    · simp only [List.mem_cons, List.not_mem_nil, or_false] at hx
      rcases hx with rfl | rfl <;> decide
    · have e : ([-1, 1] : List Int).length = 2 := rfl
      rw [e]
      omega
  · have h3 := e3 0
    rw [z, evI_nil] at h3
    grind
  · have hsub : gs.length ≤ 5 := by
      have : (ends n1 n2 gs).length = (kd [0, 1] n1).length + ((kd [1, -1] n2).length + gs.length) := by
        unfold ends
        rw [List.length_append, List.length_append]
      omega
    exact (prim_rows m3 (ts := gs.map (·.1)) (k := k3 * k) (fun t ht => by
      obtain ⟨p, hp, rfl⟩ := List.mem_map.mp ht
      exact hfb p (List.mem_append_right _ (List.mem_append_right _ hp))) (by rw [List.length_map]; omega) fun x => by rw [e3, ← Pf_prod]; grind).mono (by rw [List.length_map]; omega)
end Kq

set_option Elab.async false
set_option linter.all false
set_option maxRecDepth 100000
set_option maxHeartbeats 1000000
/-! the rows of remainders tell how many roots -/
namespace Kq
def fns (fs : List Fac) : List (Rat → Rat) := fs.map fun p => evQ p.1
/-- rows in lowest terms whose roots between 0 and 1 are those of some factors, each one once -/
structure Roots (f : List Int) (fs gs : List Fac) (W : Rat → Rat) (k : Rat) : Prop where
  norm : Norm f
  ne : f ≠ []
  len : f.length ≤ 13
  bd : Bd f 181
  k0 : k ≠ 0
  dist : Dist gs
  ev : ∀ x, evI f x = k * Pf gs x
  pg : ∀ x, Pf gs x = W x * prodR (fns fs) x
  pw : PF W
  pos : ∀ x, 0 ≤ x → x ≤ 1 → 0 < W x
  inc : ∀ g ∈ fns fs, Inc g
  cop : (fns fs).Pairwise Cop
  ends : ∀ g ∈ fns fs, g 0 < 0 ∧ 0 < g 1
theorem pf_prodR : ∀ {fl : List (Rat → Rat)}, (∀ g ∈ fl, PF g) → PF (prodR fl)
  | [], _ => pf_const 1
  | f :: fl, h => (h f List.mem_cons_self).mul (pf_prodR fun g hg => h g (List.mem_cons_of_mem _ hg))
theorem pf_fns {fs : List Fac} : ∀ g ∈ fns fs, PF g := fun g hg => by
  obtain ⟨p, _, rfl⟩ := List.mem_map.mp hg
  exact pf_ev _
/-- with all powers 1 -/
def ones (gs : List Fac) : List Fac := gs.map fun p => (p.1, 1)
theorem ones_ok : ∀ {gs : List Fac}, Dist gs → Dist (ones gs) ∧ (∀ x, Pf (ones gs) x = Pf gs x) ∧ (∀ x, Ff (ones gs) x = Pf gs x) ∧ ∀ x, Df (ones gs) x = 1
  | [], _ => ⟨trivial, fun _ => rfl, fun _ => rfl, fun _ => rfl⟩
  | p :: gs, h => by
    obtain ⟨h1, h2, h3, h4⟩ := h
    obtain ⟨i1, i2, i3, i4⟩ := ones_ok h4
    refine ⟨⟨Nat.le_refl _, h2, fun q hq => ?_, i1⟩, fun x => ?_, fun x => ?_, fun x => ?_⟩
    · obtain ⟨r, hr, rfl⟩ := List.mem_map.mp hq
      exact h3 r hr
    · show evQ p.1 x * Pf (ones gs) x = evQ p.1 x * Pf gs x
      rw [i2]
    · show 1 * evQ p.1 x * Ff (ones gs) x = evQ p.1 x * Pf gs x
      rw [i3]
      grind
    · show 1 * Df (ones gs) x = 1
      rw [i4]
      grind
theorem fit13' : ∀ L, L < 14 → Fit L 181 185 := by
  unfold Fit
  decide
theorem cnt_nil_of {f : List Int} {fs gs : List Fac} {W : Rat → Rat} {k : Rat} (R : Roots f fs gs W k) (h : f.length ≤ 1) : fs = [] := by
  cases fs with
  | nil => rfl
  | cons p fs =>
    exfalso
    have hz : (lastI f : Rat) ≠ 0 := fun z => (R.norm.resolve_left R.ne).1 (Rat.intCast_eq_zero_iff.mp z)
    have h2 : ∀ x, evQ p.1 x * (k * W x * prodR (fns fs) x) = (lastI f : Rat) := fun x => by
      rw [← ev_single h R.ne x, R.ev, R.pg]
      show _ = k * (W x * (evQ p.1 x * prodR (fns fs) x))
      grind
    obtain ⟨c, _, e⟩ := PF.unit (pf_ev p.1) ((R.pw.smul k).mul (pf_prodR pf_fns)) hz h2
    have h3 := R.ends (evQ p.1) List.mem_cons_self
    rw [e, e] at h3
    grind
/-- the rows of remainders -/
theorem rows_ex {f : List Int} {fs gs : List Fac} {W : Rat → Rat} {k : Rat} (R : Roots f fs gs W k) : ∃ rows, RemS f rows ∧ rows.length ≤ 1000 ∧ (∀ l ∈ rows, l.length ≤ 13 ∧ Bd l 56300000) ∧
    ∀ u v, 0 ≤ u → u ≤ v → v ≤ 1 → varAt rows u + cnt (fns fs) u = varAt rows v + cnt (fns fs) v := by
  have hb : Bd f 56300000 := R.bd.mono (by decide)
  by_cases h1 : f.length ≤ 1
  · refine ⟨[f], .one h1, by show 1 ≤ 1000; decide, fun l hl => by rw [List.mem_singleton.mp hl]; exact ⟨R.len, hb⟩, fun u v _ _ _ => ?_⟩
    rw [varAt_var, varAt_var]
    show var [evI f] u + _ = var [evI f] v + _
    rw [var_one, var_one, cnt_nil_of R h1]
    rfl
  · have hl0 := (R.norm.resolve_left R.ne).1
    have hs := slope_ne (by omega) hl0
    have hsl := slope_len f
    obtain ⟨c, hc, es⟩ := slope_ev f
    obtain ⟨d1, p1, f1, D1⟩ := ones_ok R.dist
    have hd : ∀ x, dvI f x = k * Hf (ones gs) x := fun x => by
      have h2 := pd_uniq (pd_evI f) ((pd_smul k (Ff_pd d1)).congr (fun x => by rw [R.ev, f1]) fun _ => rfl) x
      rw [h2, D1]
      grind
    have hcop : Cop (evI f) (evI (slope f)) := by
      have c1 := cop_PH d1
      have c2 : Cop (fun x => k * Pf (ones gs) x) (fun x => k / c * Hf (ones gs) x) := (Cop.smul R.k0 (c1.symm)).symm.smul (by
        intro z
        have : k = k / c * c := by grind
        have := R.k0
        grind)
      refine c2.congr (fun x => by rw [R.ev, p1]) (fun x => ?_)
      have h3 := es x
      rw [hd] at h3
      grind
    obtain ⟨n, out, hn, ho, hrem, hch, hall⟩ := rem_ex f.length f (slope f) 181 185 (by omega) (by omega) (by have := R.len; omega) hs ((slope_norm f).resolve_left hs).1 R.bd (slope_bd R.bd (by have := R.len; omega)) (fit13' _ (by have := R.len; omega)) hcop
    have hlen := R.len
    refine ⟨f :: slope f :: out, .more (by omega) (by omega) (fun x hx => hb.sm (by decide) hx) hs (by omega) hrem, by rw [List.length_cons, List.length_cons]; omega, fun l hl => ?_, fun u v h0 huv h1 => ?_⟩
    · rcases List.mem_cons.mp hl with rfl | hl
      · exact ⟨hlen, hb⟩
      · obtain ⟨a1, a2⟩ := hall l hl
        exact ⟨by omega, a2⟩
    · rw [varAt_var, varAt_var]
      exact sturm R.inc pf_fns R.cop hch R.k0 (show 0 < c⁻¹ from Rat.inv_pos.mpr hc) (pd_evI f) (fun x => by have := es x; grind) R.pos (fun x => by rw [R.ev, R.pg]; grind) h0 huv h1
/-! ### how many are passed -/
def sgF : List Fac → Rat → Int
  | [], _ => 1
  | p :: fs, x => (if p.2 = 2 then 1 else sgR (evQ p.1 x)) * sgF fs x
def Non (fs : List Fac) (x : Rat) : Prop := ∀ p ∈ fs, evQ p.1 x ≠ 0
def Flip (p : Fac) (u v : Rat) : Prop := evQ p.1 u < 0 ∧ 0 < evQ p.1 v
theorem cnt_cons (p : Fac) (fs : List Fac) (x : Rat) : cnt (fns (p :: fs)) x = (if 0 ≤ evQ p.1 x then 1 else 0) + cnt (fns fs) x := rfl
theorem inc_le {f : Rat → Rat} (h : Inc f) {u v : Rat} (h0 : 0 ≤ u) (huv : u ≤ v) (h1 : v ≤ 1) : f u ≤ f v := by
  by_cases e : u = v
  · rw [e]; grind
  · exact Rat.le_of_lt (h u v h0 (by grind) h1)
/-- what is passed between two points, factor by factor -/
theorem cnt_two {u v : Rat} (h0 : 0 ≤ u) (huv : u ≤ v) (h1 : v ≤ 1) : ∀ {fs : List Fac}, (∀ g ∈ fns fs, Inc g) → Non fs u → Non fs v →
    cnt (fns fs) u ≤ cnt (fns fs) v ∧ (cnt (fns fs) v = cnt (fns fs) u → sgF fs v = sgF fs u ∧ ∀ p ∈ fs, ¬ Flip p u v) ∧
    (cnt (fns fs) v = cnt (fns fs) u + 1 → ∀ p ∈ fs, p.2 ≠ 2 → Flip p u v → sgF fs v = -sgF fs u) ∧
    (cnt (fns fs) u < cnt (fns fs) v → ∃ p ∈ fs, Flip p u v) ∧
    (cnt (fns fs) u + 1 < cnt (fns fs) v → ¬ fs.Pairwise fun p q => ¬ (Flip p u v ∧ Flip q u v))
  | [], _, _, _ => ⟨Nat.le_refl _, fun _ => ⟨rfl, fun p hp => (by cases hp)⟩, fun _ p hp => (by cases hp), fun h => absurd h (Nat.lt_irrefl _), fun h => absurd h (by show ¬ (0 + 1 < 0); omega)⟩
  | p :: fs, hi, hu, hv => by
    have hp := inc_le (hi _ List.mem_cons_self) h0 huv h1
    obtain ⟨i1, i2, i3, i4, i5⟩ := cnt_two h0 huv h1 (fun g hg => hi g (List.mem_cons_of_mem _ hg)) (fun q hq => hu q (List.mem_cons_of_mem _ hq)) (fun q hq => hv q (List.mem_cons_of_mem _ hq))
    have nu := hu p List.mem_cons_self
    have nv := hv p List.mem_cons_self
    rw [cnt_cons, cnt_cons]
    show _ ∧ (_ → (if p.2 = 2 then 1 else sgR (evQ p.1 v)) * sgF fs v = (if p.2 = 2 then 1 else sgR (evQ p.1 u)) * sgF fs u ∧ _) ∧ (_ → ∀ q ∈ p :: fs, q.2 ≠ 2 → Flip q u v → (if p.2 = 2 then 1 else sgR (evQ p.1 v)) * sgF fs v = -((if p.2 = 2 then 1 else sgR (evQ p.1 u)) * sgF fs u)) ∧ _ ∧ _
    by_cases hf : Flip p u v
    · obtain ⟨f1, f2⟩ := id hf
      rw [if_neg (show ¬ 0 ≤ evQ p.1 u by grind), if_pos (show 0 ≤ evQ p.1 v by grind), sgR_neg f1, sgR_pos f2]
      refine ⟨by omega, fun e => by omega, fun e q hq h2 h3 => ?_, fun _ => ⟨p, List.mem_cons_self, hf⟩, fun e hpw => ?_⟩
      · obtain ⟨j1, j2⟩ := i2 (by omega)
        rcases List.mem_cons.mp hq with rfl | hq
        · rw [if_neg h2, if_neg h2, j1]
          omega
        · exact absurd h3 (j2 q hq)
      · obtain ⟨q, hq, h3⟩ := i4 (by omega)
        exact (List.pairwise_cons.mp hpw).1 q hq ⟨hf, h3⟩
    · have hs : sgR (evQ p.1 v) = sgR (evQ p.1 u) ∧ (0 ≤ evQ p.1 u ↔ 0 ≤ evQ p.1 v) := by
        unfold Flip at hf
        rcases sgR_cases (evQ p.1 u) with ⟨a1, a2⟩ | ⟨a1, a2⟩ | ⟨a1, a2⟩
        · rw [a2, sgR_pos (by grind)]
          exact ⟨rfl, by grind⟩
        · rw [a2, sgR_neg (by grind)]
          exact ⟨rfl, by grind⟩
        · exact absurd a1 nu
      obtain ⟨s1, s2⟩ := hs
      have e : (if 0 ≤ evQ p.1 v then 1 else 0) = if 0 ≤ evQ p.1 u then 1 else 0 := by simp only [s2]
      rw [e, s1]
      refine ⟨by omega, fun h => ?_, fun h q hq h2 h3 => ?_, fun h => ?_, fun h hpw => ?_⟩
      · obtain ⟨j1, j2⟩ := i2 (by omega)
        refine ⟨by rw [j1], fun q hq => ?_⟩
        rcases List.mem_cons.mp hq with rfl | hq
        · exact hf
        · exact j2 q hq
      · rcases List.mem_cons.mp hq with rfl | hq
        · exact absurd h3 hf
        · rw [i3 (by omega) q hq h2 h3, Int.mul_neg]
      · obtain ⟨q, hq, h3⟩ := i4 (by omega)
        exact ⟨q, List.mem_cons_of_mem _ hq, h3⟩
      · exact i5 (by omega) (List.pairwise_cons.mp hpw).2
end Kq

set_option Elab.async false
set_option linter.all false
set_option maxRecDepth 100000
set_option maxHeartbeats 1000000
/-! the cuts between the roots -/
namespace Kq
def c96 : Nat := 2 ^ 96
structure Apart (fs : List Fac) : Prop where
  few : fs.length ≤ 3
  two : fs.Pairwise fun p q => ∀ u v, 0 ≤ u → u < v → v ≤ 1 → Flip p u v → Flip q u v → 1 ≤ (v - u) * (c96 : Rat)
  e0 : ∀ p ∈ fs, ∀ v, 0 < v → v ≤ 1 → 0 < evQ p.1 v → 1 ≤ v * (c96 : Rat)
  e1 : ∀ p ∈ fs, ∀ u, 0 ≤ u → u < 1 → evQ p.1 u < 0 → 1 ≤ (1 - u) * (c96 : Rat)
theorem prodR_zero {x : Rat} : ∀ {fs : List Fac}, prodR (fns fs) x = 0 → ∃ p ∈ fs, evQ p.1 x = 0
  | [], h => absurd h (by show (1 : Rat) ≠ 0; decide)
  | p :: fs, h => by
    rcases Rat.mul_eq_zero.mp (show evQ p.1 x * prodR (fns fs) x = 0 from h) with z | z
    · exact ⟨p, List.mem_cons_self, z⟩
    · obtain ⟨q, hq, e⟩ := prodR_zero z
      exact ⟨q, List.mem_cons_of_mem _ hq, e⟩
theorem prodR_non {x : Rat} : ∀ {fs : List Fac}, Non fs x → prodR (fns fs) x ≠ 0
  | [], _ => by show (1 : Rat) ≠ 0; decide
  | p :: fs, h => fun z => by
    rcases Rat.mul_eq_zero.mp (show evQ p.1 x * prodR (fns fs) x = 0 from z) with z | z
    · exact h p List.mem_cons_self z
    · exact prodR_non (fun q hq => h q (List.mem_cons_of_mem _ hq)) z
/-- no more places without a sign than factors -/
theorem few_zeros : ∀ (fs : List Fac) (pts : List Rat), (∀ g ∈ fns fs, Inc g) → pts.Nodup → (∀ x ∈ pts, 0 ≤ x ∧ x ≤ 1) → (∀ x ∈ pts, ¬ Non fs x) → pts.length ≤ fs.length
  | [], pts, _, _, _, h => by
    cases pts with
    | nil => exact Nat.le_refl _
    | cons x _ => exact absurd (fun p hp => by cases hp) (h x List.mem_cons_self)
  | p :: fs, pts, hi, hn, hb, h => by
    have hi' : ∀ g ∈ fns fs, Inc g := fun g hg => hi g (List.mem_cons_of_mem _ hg)
    have hp := hi _ List.mem_cons_self
    rw [List.length_cons]
    by_cases hz : ∃ x ∈ pts, evQ p.1 x = 0
    · obtain ⟨x, hx, ex⟩ := hz
      have h1 := few_zeros fs (pts.erase x) hi' (hn.erase x) (fun y hy => hb y (List.mem_of_mem_erase hy)) fun y hy hny => by
        have hy2 := List.mem_of_mem_erase hy
        have hne : y ≠ x := ((List.Nodup.mem_erase_iff hn).mp hy).1
        refine h y hy2 fun q hq => ?_
        rcases List.mem_cons.mp hq with rfl | hq
        · intro ey
          have a := hb x hx
          have b := hb y hy2
          rcases Rat.le_total (a := x) (b := y) with l | l
          · have := hp x y a.1 (by grind) b.2
            grind
          · have := hp y x b.1 (by grind) a.2
            grind
        · exact hny q hq
      rw [List.length_erase_of_mem hx] at h1
      omega
    · refine Nat.le_succ_of_le (few_zeros fs pts hi' hn hb fun y hy hny => h y hy fun q hq => ?_)
      rcases List.mem_cons.mp hq with rfl | hq
      · exact fun e => hz ⟨y, hy, e⟩
      · exact hny q hq
theorem least {P : Nat → Prop} : ∀ n, (∃ j, j < n ∧ P j) → ∃ k, k < n ∧ P k ∧ ∀ j, j < k → ¬ P j
  | 0, h => by
    obtain ⟨j, h, _⟩ := h
    omega
  | n + 1, h => by
    by_cases h1 : ∃ j, j < n ∧ P j
    · obtain ⟨k, a, b, c⟩ := least n h1
      exact ⟨k, by omega, b, c⟩
    · obtain ⟨j, hj, pj⟩ := h
      exact ⟨j, hj, pj, fun i hi pi => h1 ⟨i, by omega, pi⟩⟩
/-- a stretch between two places -/
structure Iv (fs : List Fac) (t : Nat) (lo hi : Rat) : Prop where
  l0 : 0 ≤ lo
  lh : lo < hi
  h1 : hi ≤ 1
  nl : Non fs lo
  nh : Non fs hi
  w : (hi - lo) * ((5 ^ t : Nat) : Rat) ≤ ((4 ^ t : Nat) : Rat)
  den : ∃ D : Nat, 0 < D ∧ D ≤ 5 ^ t ∧ ∃ a b : Int, lo = (a : Rat) / (D : Rat) ∧ hi = (b : Rat) / (D : Rat)
theorem bq01 {D : Nat} {a : Int} {q : Rat} (hD : 0 < D) (e : q = (a : Rat) / (D : Rat)) (h0 : 0 ≤ q) (h1 : q ≤ 1) : BQ D D q := by
  refine ⟨a, e, ?_⟩
  have hD' : (0 : Rat) < (D : Rat) := Rat.natCast_pos.mpr hD
  have e1 : q * (D : Rat) = (a : Rat) := by rw [e]; grind
  have m0 := Rat.mul_nonneg h0 (Rat.le_of_lt hD')
  have m1 := Rat.mul_le_mul_of_nonneg_right h1 (Rat.le_of_lt hD')
  rw [e1] at m0 m1
  have a0 : 0 ≤ a := Rat.intCast_nonneg.mp m0
  have a1 : (a : Rat) ≤ ((D : Int) : Rat) := by
    have : ((D : Int) : Rat) = (D : Rat) := rfl
    grind
  have a2 := Rat.intCast_le_intCast.mp a1
  omega
theorem pow5 {t : Nat} (h : t ≤ 311) : 5 ^ t < 2 ^ 724 := Nat.lt_of_le_of_lt (Nat.pow_le_pow_right (by decide) h) (by decide +kernel)
theorem qb01 {D : Nat} {a : Int} {q : Rat} {t : Nat} (hD : 0 < D) (hD2 : D ≤ 5 ^ t) (ht : t ≤ 311) (e : q = (a : Rat) / (D : Rat)) (h0 : 0 ≤ q) (h1 : q ≤ 1) : QB 724 q :=
  (bq01 hD e h0 h1).qb hD (Nat.lt_of_le_of_lt hD2 (pow5 ht)) (Nat.lt_of_le_of_lt hD2 (pow5 ht))
theorem at_ok {l : List Int} {q : Rat} (hl : l.length ≤ 13) (hb : Bd l 56300000) (hq : QB 724 q) : AtOk l q := by
  refine ⟨by omega, 56300000, 724, hb, hq.1, hq.2, ?_, by decide⟩
  have : l.length * (724 + 2) ≤ 13 * (724 + 2) := Nat.mul_le_mul_right _ hl
  omega
def pt (lo hi : Rat) (j : Nat) : Rat := lo + (hi - lo) / ((j + 2 : Nat) : Rat)
theorem ptOf_pt (lo hi : Rat) (j : Nat) : ptOf lo hi ((j : Int) + 2) = pt lo hi j := by
  have h1 := num_den lo
  have h2 := num_den hi
  have d1 : (((lo.den : Nat) : Int) : Rat) ≠ 0 := natCast_ne lo.den_pos
  have d2 : (((hi.den : Nat) : Int) : Rat) ≠ 0 := natCast_ne hi.den_pos
  have d3 : (((j + 2 : Nat) : Rat)) ≠ 0 := natCast_ne (by omega)
  unfold ptOf pt
  rw [Rat.divInt_eq_div, show ((j : Int) + 2) = ((j + 2 : Nat) : Int) by omega]
  simp only [Rat.intCast_add, Rat.intCast_mul, Rat.intCast_sub]
  rw [← h1, ← h2]
  have e : (((j + 2 : Nat) : Int) : Rat) = ((j + 2 : Nat) : Rat) := rfl
  have e1 : ((1 : Int) : Rat) = 1 := rfl
  rw [e, e1]
  generalize ((j + 2 : Nat) : Rat) = c at *
  generalize (((lo.den : Nat) : Int) : Rat) = x at *
  generalize (((hi.den : Nat) : Int) : Rat) = y at *
  have e3 : lo * x * y * (c - 1) + hi * y * x = x * y * c * (lo + (hi - lo) / c) := by grind
  rw [e3]
  grind
theorem pt_in {lo hi : Rat} (h : lo < hi) (j : Nat) : lo < pt lo hi j ∧ pt lo hi j < hi ∧ (pt lo hi j - lo) * ((j + 2 : Nat) : Rat) = hi - lo := by
  have hc : (0 : Rat) < ((j + 2 : Nat) : Rat) := Rat.natCast_pos.mpr (by omega)
  have hc1 : (1 : Rat) < ((j + 2 : Nat) : Rat) := by
    have : ((1 : Nat) : Rat) < ((j + 2 : Nat) : Rat) := Rat.natCast_lt_natCast.mpr (by omega)
    exact this
  unfold pt
  generalize ((j + 2 : Nat) : Rat) = c at *
  have e : (hi - lo) / c * c = hi - lo := by grind
  have p : 0 < (hi - lo) / c := by
    rw [Rat.div_def]
    exact Rat.mul_pos (by grind) (Rat.inv_pos.mpr hc)
  have m := Rat.mul_lt_mul_of_pos_left hc1 p
  grind
theorem pt_den {lo hi : Rat} {D : Nat} {a b : Int} (hD : 0 < D) (e1 : lo = (a : Rat) / (D : Rat)) (e2 : hi = (b : Rat) / (D : Rat)) (j : Nat) :
    pt lo hi j = ((a * ((j + 1 : Nat) : Int) + b : Int) : Rat) / ((((j + 2) * D : Nat)) : Rat) ∧ lo = ((a * ((j + 2 : Nat) : Int) : Int) : Rat) / ((((j + 2) * D : Nat)) : Rat) ∧ hi = ((b * ((j + 2 : Nat) : Int) : Int) : Rat) / ((((j + 2) * D : Nat)) : Rat) := by
  have hD' := natCast_ne hD
  have d3 : (((j + 2 : Nat) : Rat)) ≠ 0 := natCast_ne (by omega)
  have e4 : ((j + 2 : Nat) : Rat) = ((j + 1 : Nat) : Rat) + 1 := by simp; grind
  have c1 : (((j + 1 : Nat) : Int) : Rat) = ((j + 1 : Nat) : Rat) := rfl
  have c2 : (((j + 2 : Nat) : Int) : Rat) = ((j + 2 : Nat) : Rat) := rfl
  unfold pt
  rw [Rat.intCast_add, Rat.intCast_mul, Rat.intCast_mul, Rat.intCast_mul, Rat.natCast_mul, c1, c2, e1, e2]
  rw [e4] at d3 ⊢
  generalize ((j + 1 : Nat) : Rat) = c at *
  refine ⟨by grind, by grind, by grind⟩
theorem zero_prod {x : Rat} {p : Fac} : ∀ {fs : List Fac}, p ∈ fs → evQ p.1 x = 0 → prodR (fns fs) x = 0
  | q :: fs, hp, e => by
    show evQ q.1 x * prodR (fns fs) x = 0
    rcases List.mem_cons.mp hp with rfl | hp
    · rw [e, Rat.zero_mul]
    · rw [zero_prod hp e, Rat.mul_zero]
theorem Roots.non {f : List Int} {fs gs : List Fac} {W : Rat → Rat} {k : Rat} (R : Roots f fs gs W k) {x : Rat} (h0 : 0 ≤ x) (h1 : x ≤ 1) : sgnAt f x ≠ 0 ↔ Non fs x := by
  rw [sgnAt_ev, R.ev, R.pg]
  have hw := R.pos x h0 h1
  have hk := R.k0
  constructor
  · intro h p hp e
    apply h
    have : prodR (fns fs) x = 0 := zero_prod hp e
    rw [this, Rat.mul_zero, Rat.mul_zero, sgR_zero]
  · intro h z
    have hp := prodR_non h
    rcases sgR_cases (k * (W x * prodR (fns fs) x)) with y | y | y
    · omega
    · omega
    · rcases Rat.mul_eq_zero.mp y.1 with y | y
      · exact hk y
      · rcases Rat.mul_eq_zero.mp y with y | y
        · grind
        · exact hp y
/-- a cut -/
theorem cb_ex {f : List Int} {fs gs : List Fac} {W : Rat → Rat} {k : Rat} (R : Roots f fs gs W k) (A : Apart fs) {t : Nat} {lo hi : Rat} (I : Iv fs t lo hi) (ht : t ≤ 310) :
    ∃ n p, n < 4 ∧ CB f lo hi p n ∧ p = pt lo hi n ∧ Non fs p ∧ QB 724 p := by
  obtain ⟨D, hD, hD5, a, b, ea, eb⟩ := I.den
  have hin := pt_in I.lh
  have h01 : ∀ j, 0 ≤ pt lo hi j ∧ pt lo hi j ≤ 1 := fun j => by
    have := hin j
    have := I.l0
    have := I.h1
    grind
  have hqb : ∀ j, j < 4 → QB 724 (pt lo hi j) := fun j hj => by
    refine qb01 (D := (j + 2) * D) (t := t + 1) (Nat.mul_pos (by omega) hD) ?_ (by omega) (pt_den hD ea eb j).1 (h01 j).1 (h01 j).2
    rw [Nat.pow_succ, Nat.mul_comm]
    exact Nat.mul_le_mul hD5 (by omega)
  have hdis : ∀ i j, i ≠ j → pt lo hi i ≠ pt lo hi j := fun i j hij e => by
    have a1 := hin i
    have a2 := hin j
    rw [e] at a1
    have h3 : (pt lo hi j - lo) * (((i + 2 : Nat) : Rat) - ((j + 2 : Nat) : Rat)) = 0 := by grind
    rcases Rat.mul_eq_zero.mp h3 with z | z
    · grind
    · have : ((i + 2 : Nat) : Rat) = ((j + 2 : Nat) : Rat) := by grind
      have := Rat.natCast_inj.mp this
      omega
  have hex : ∃ j, j < 4 ∧ Non fs (pt lo hi j) := by
    refine Classical.byContradiction fun hno => ?_
    have h1 := few_zeros fs [pt lo hi 0, pt lo hi 1, pt lo hi 2, pt lo hi 3] R.inc (by
      simp [hdis]) (fun x hx => by
        simp only [List.mem_cons, List.not_mem_nil, or_false] at hx
        rcases hx with rfl | rfl | rfl | rfl <;> exact h01 _) (fun x hx hn => hno (by
        simp only [List.mem_cons, List.not_mem_nil, or_false] at hx
        rcases hx with rfl | rfl | rfl | rfl
        · exact ⟨0, by omega, hn⟩
        · exact ⟨1, by omega, hn⟩
        · exact ⟨2, by omega, hn⟩
        · exact ⟨3, by omega, hn⟩))
    have := A.few
    simp at h1
    omega
  obtain ⟨n, hn, hnon, hz⟩ := least 4 hex
  have fb : Bd f 56300000 := R.bd.mono (by decide)
  have ql := qb01 hD hD5 (by omega) ea I.l0 (by have := I.lh; have := I.h1; grind)
  have qh := qb01 hD hD5 (by omega) eb (by have := I.lh; have := I.l0; grind) I.h1
  have big : (2 : Nat) ^ 724 ≤ 2 ^ 10000 := Nat.pow_le_pow_right (by decide) (by decide)
  refine ⟨n, pt lo hi n, hn, ⟨(ptOf_pt lo hi n).symm, fun j hj => ?_, (R.non (h01 n).1 (h01 n).2).mpr hnon, fun j hj => ?_, by omega, Nat.lt_of_lt_of_le ql.1 big, Nat.lt_of_lt_of_le qh.1 big, Nat.lt_of_lt_of_le ql.2 big, Nat.lt_of_lt_of_le qh.2 big⟩, rfl, hnon, hqb n hn⟩
  · rw [ptOf_pt]
    exact Decidable.byContradiction fun h => hz j hj ((R.non (h01 j).1 (h01 j).2).mp h)
  · rw [ptOf_pt]
    exact at_ok R.len fb (hqb j (by omega))
theorem iv_two {fs : List Fac} {t n : Nat} {lo hi : Rat} (I : Iv fs t lo hi) (hn : n < 4) (hp : Non fs (pt lo hi n)) : Iv fs (t + 1) lo (pt lo hi n) ∧ Iv fs (t + 1) (pt lo hi n) hi := by
  obtain ⟨D, hD, hD5, a, b, ea, eb⟩ := I.den
  obtain ⟨p1, p2, p3⟩ := pt_in I.lh n
  obtain ⟨d1, d2, d3⟩ := pt_den hD ea eb n
  have hDD : (n + 2) * D ≤ 5 ^ (t + 1) := by
    rw [Nat.pow_succ, Nat.mul_comm]
    exact Nat.mul_le_mul hD5 (by omega)
  have hD0 : 0 < (n + 2) * D := Nat.mul_pos (by omega) hD
  have e5 : ((5 ^ (t + 1) : Nat) : Rat) = ((5 ^ t : Nat) : Rat) * 5 := by rw [Nat.pow_succ, Rat.natCast_mul]; rfl
  have e4 : ((4 ^ (t + 1) : Nat) : Rat) = ((4 ^ t : Nat) : Rat) * 4 := by rw [Nat.pow_succ, Rat.natCast_mul]; rfl
  have h5 : (0 : Rat) ≤ ((5 ^ t : Nat) : Rat) := Rat.natCast_nonneg
  have hw := I.w
  have c2 : (2 : Rat) ≤ ((n + 2 : Nat) : Rat) := by
    have : ((2 : Nat) : Rat) ≤ ((n + 2 : Nat) : Rat) := Rat.natCast_le_natCast.mpr (by omega)
    exact this
  have c5 : ((n + 2 : Nat) : Rat) ≤ 5 := by
    have : ((n + 2 : Nat) : Rat) ≤ ((5 : Nat) : Rat) := Rat.natCast_le_natCast.mpr (by omega)
    exact this
  have g0 : 0 ≤ pt lo hi n - lo := by grind
  have m2 := Rat.mul_le_mul_of_nonneg_left c2 g0
  have m5 := Rat.mul_le_mul_of_nonneg_left c5 g0
  have w1 : (pt lo hi n - lo) * 5 ≤ 4 * (hi - lo) := by grind
  have w2 : (hi - pt lo hi n) * 5 ≤ 4 * (hi - lo) := by grind
  have k1 := Rat.mul_le_mul_of_nonneg_right w1 h5
  have k2 := Rat.mul_le_mul_of_nonneg_right w2 h5
  have l0 := I.l0
  have h1 := I.h1
  refine ⟨⟨l0, p1, by grind, I.nl, hp, ?_, _, hD0, hDD, _, _, d2, d1⟩, ⟨by grind, p2, h1, hp, I.nh, ?_, _, hD0, hDD, _, _, d1, d3⟩⟩
  · rw [e5, e4]
    grind
  · rw [e5, e4]
    grind
end Kq

set_option Elab.async false
set_option linter.all false
set_option maxRecDepth 100000
set_option maxHeartbeats 1000000
/-! the machine of the cuts runs to its end, and finds enough -/
namespace Kq
theorem wide_last {x : Rat} (h : 1 ≤ x * (c96 : Rat)) {t : Nat} (w : x * ((5 ^ t : Nat) : Rat) ≤ ((4 ^ t : Nat) : Rat)) : t ≠ 310 := by
  rintro rfl
  have hc : (0 : Rat) ≤ (c96 : Rat) := Rat.natCast_nonneg
  have h5 : (0 : Rat) ≤ ((5 ^ 310 : Nat) : Rat) := Rat.natCast_nonneg
  have m1 := Rat.mul_le_mul_of_nonneg_right h h5
  have m2 := Rat.mul_le_mul_of_nonneg_right w hc
  have m3 : ((5 ^ 310 : Nat) : Rat) ≤ ((4 ^ 310 * c96 : Nat) : Rat) := by
    rw [Rat.natCast_mul]
    generalize ((5 ^ 310 : Nat) : Rat) = a at *
    generalize ((4 ^ 310 : Nat) : Rat) = b at *
    generalize (c96 : Rat) = c at *
    grind
  have m4 := Rat.natCast_le_natCast.mp m3
  exact absurd m4 (by decide +kernel)
/-- what a stretch with a sign below tells of its cuts -/
def Below (fs : List Fac) (s : Int) (lo hi : Rat) (e : List Rat) : Prop :=
  (s * sgF fs lo < 0 ∨ s * sgF fs hi < 0 ∨ ∃ p ∈ fs, p.2 ≠ 2 ∧ Flip p lo hi) →
    (∃ x ∈ e, s * sgF fs x < 0) ∨ (lo ≠ 0 ∧ s * sgF fs lo < 0) ∨ (hi ≠ 1 ∧ s * sgF fs hi < 0) ∨ (lo = 0 ∧ hi = 1 ∧ e = [] ∧ cnt (fns fs) hi = cnt (fns fs) lo)
theorem sgF_ne {x : Rat} : ∀ {fs : List Fac}, Non fs x → sgF fs x = 1 ∨ sgF fs x = -1
  | [], _ => .inl rfl
  | p :: fs, h => by
    have ih := sgF_ne (fs := fs) fun q hq => h q (List.mem_cons_of_mem _ hq)
    show (if p.2 = 2 then 1 else sgR (evQ p.1 x)) * sgF fs x = 1 ∨ (if p.2 = 2 then 1 else sgR (evQ p.1 x)) * sgF fs x = -1
    have h1 : (if p.2 = 2 then 1 else sgR (evQ p.1 x)) = 1 ∨ (if p.2 = 2 then 1 else sgR (evQ p.1 x)) = (-1 : Int) := by
      split
      · exact .inl rfl
      · rcases sgR_cases (evQ p.1 x) with y | y | y
        · exact .inl y.2
        · exact .inr y.2
        · exact absurd y.1 (h p List.mem_cons_self)
    rcases h1 with h1 | h1 <;> rcases ih with h2 | h2 <;> rw [h1, h2] <;> decide
theorem many_eq {fs : List Fac} {rows : List (List Int)} (hS : ∀ u v, 0 ≤ u → u ≤ v → v ≤ 1 → varAt rows u + cnt (fns fs) u = varAt rows v + cnt (fns fs) v) {t : Nat} {lo hi : Rat} (I : Iv fs t lo hi) :
    (varAt rows lo : Int) - (varAt rows hi : Int) = (cnt (fns fs) hi : Int) - (cnt (fns fs) lo : Int) := by
  have := hS lo hi I.l0 (Rat.le_of_lt I.lh) I.h1
  omega
/-- a stretch that is cut is wide -/
theorem more_wide {fs : List Fac} (hi' : ∀ g ∈ fns fs, Inc g) (A : Apart fs) {rows : List (List Int)} (hS : ∀ u v, 0 ≤ u → u ≤ v → v ≤ 1 → varAt rows u + cnt (fns fs) u = varAt rows v + cnt (fns fs) v) {t : Nat} {lo hi : Rat} (I : Iv fs t lo hi)
    (h : more rows lo hi) : 1 ≤ (hi - lo) * (c96 : Rat) ∧ cnt (fns fs) lo < cnt (fns fs) hi := by
  unfold more at h
  rw [many_eq hS I] at h
  obtain ⟨i1, i2, i3, i4, i5⟩ := cnt_two I.l0 (Rat.le_of_lt I.lh) I.h1 hi' I.nl I.nh
  have hlt : cnt (fns fs) lo < cnt (fns fs) hi := by omega
  refine ⟨?_, hlt⟩
  rcases h with h | ⟨h, h2⟩
  · refine Classical.byContradiction fun hw => i5 (by omega) (List.Pairwise.imp (fun {p q} k (z : Flip p lo hi ∧ Flip q lo hi) => hw (k lo hi I.l0 I.lh I.h1 z.1 z.2)) A.two)
  · obtain ⟨p, hp, f1, f2⟩ := i4 hlt
    rcases h2 with h2 | h2
    · have := A.e0 p hp hi (by have := I.lh; grind) I.h1 f2
      rw [h2]
      grind
    · have := A.e1 p hp lo I.l0 (by have := I.lh; grind) f1
      rw [h2]
      exact this
theorem leaf_ok {fs : List Fac} (hi' : ∀ g ∈ fns fs, Inc g) {rows : List (List Int)} (hS : ∀ u v, 0 ≤ u → u ≤ v → v ≤ 1 → varAt rows u + cnt (fns fs) u = varAt rows v + cnt (fns fs) v) {s : Int} (hs : s = 1 ∨ s = -1) {t : Nat} {lo hi : Rat} (I : Iv fs t lo hi)
    (h : ¬ more rows lo hi) : Below fs s lo hi [] := by
  unfold more at h
  rw [many_eq hS I] at h
  obtain ⟨i1, i2, i3, i4, i5⟩ := cnt_two I.l0 (Rat.le_of_lt I.lh) I.h1 hi' I.nl I.nh
  intro hb
  by_cases he : cnt (fns fs) hi = cnt (fns fs) lo
  · obtain ⟨j1, j2⟩ := i2 he
    have hlo : s * sgF fs lo < 0 := by
      rcases hb with hb | hb | ⟨p, hp, _, hf⟩
      · exact hb
      · rw [j1] at hb
        exact hb
      · exact absurd hf (j2 p hp)
    by_cases h0 : lo = 0
    · by_cases h1 : hi = 1
      · exact .inr (.inr (.inr ⟨h0, h1, rfl, he⟩))
      · exact .inr (.inr (.inl ⟨h1, by rw [j1]; exact hlo⟩))
    · exact .inr (.inl ⟨h0, hlo⟩)
  · have he1 : cnt (fns fs) hi = cnt (fns fs) lo + 1 := by omega
    have h0 : lo ≠ 0 := fun z => h (.inr ⟨by omega, .inl z⟩)
    have h1 : hi ≠ 1 := fun z => h (.inr ⟨by omega, .inr z⟩)
    rcases hb with hb | hb | ⟨p, hp, h2, hf⟩
    · exact .inr (.inl ⟨h0, hb⟩)
    · exact .inr (.inr (.inl ⟨h1, hb⟩))
    · have e := i3 he1 p hp h2 hf
      have n1 := sgF_ne I.nl
      by_cases hl : s * sgF fs lo < 0
      · exact .inr (.inl ⟨h0, hl⟩)
      · refine .inr (.inr (.inl ⟨h1, ?_⟩))
        rw [e]
        rcases hs with rfl | rfl <;> rcases n1 with n1 | n1 <;> rw [n1] at hl ⊢ <;> revert hl <;> decide
theorem run {f : List Int} {fs gs : List Fac} {W : Rat → Rat} {k : Rat} (R : Roots f fs gs W k) (A : Apart fs) {rows : List (List Int)} (hR : ∀ l ∈ rows, l.length ≤ 13 ∧ Bd l 56300000)
    (hS : ∀ u v, 0 ≤ u → u ≤ v → v ≤ 1 → varAt rows u + cnt (fns fs) u = varAt rows v + cnt (fns fs) v) {s : Int} (hs : s = 1 ∨ s = -1) :
    ∀ (j t : Nat) (lo hi : Rat), t + j = 310 → Iv fs t lo hi → ∀ (ws : List (Rat × Rat)) (f0 : List Rat), ws.length ≤ t → f0.length + (cnt (fns fs) hi - cnt (fns fs) lo) * j ≤ 1000 →
    ∃ (n : Nat) (e : List Rat), (∀ n0 fin, Cuts f rows n0 ws (f0 ++ e) fin → Cuts f rows (n0 + n) (ws ++ [(lo, hi)]) f0 fin) ∧ e.length ≤ (cnt (fns fs) hi - cnt (fns fs) lo) * j ∧
      (∀ x ∈ e, 0 < x ∧ x < 1 ∧ QB 724 x ∧ Non fs x) ∧ Below fs s lo hi e := by
  intro j
  induction j with
  | zero =>
    intro t lo hi htj I ws f0 hw hf
    have ht : t = 310 := by omega
    have hm : ¬ more rows lo hi := fun h => wide_last (more_wide R.inc A hS I h).1 I.w ht
    obtain ⟨D, hD, hD5, a, b, ea, eb⟩ := I.den
    have ql := qb01 hD hD5 (by omega) ea I.l0 (by have := I.lh; have := I.h1; grind)
    have qh := qb01 hD hD5 (by omega) eb (by have := I.lh; have := I.l0; grind) I.h1
    exact ⟨1, [], fun n0 fin h => .skip hm (fun l hl => ⟨at_ok (hR l hl).1 (hR l hl).2 ql, at_ok (hR l hl).1 (hR l hl).2 qh⟩) (by rw [List.append_nil] at h; exact h), Nat.zero_le _, (fun x h => by cases h), leaf_ok R.inc hS hs I hm⟩
  | succ j ih =>
    intro t lo hi htj I ws f0 hw hf
    obtain ⟨D, hD, hD5, a, b, ea, eb⟩ := I.den
    have ql := qb01 hD hD5 (by omega) ea I.l0 (by have := I.lh; have := I.h1; grind)
    have qh := qb01 hD hD5 (by omega) eb (by have := I.lh; have := I.l0; grind) I.h1
    have hok : ∀ l ∈ rows, AtOk l lo ∧ AtOk l hi := fun l hl => ⟨at_ok (hR l hl).1 (hR l hl).2 ql, at_ok (hR l hl).1 (hR l hl).2 qh⟩
    by_cases hm : more rows lo hi
    · obtain ⟨_, hlt⟩ := more_wide R.inc A hS I hm
      obtain ⟨n, p, hn, cb, ep, hnon, hq⟩ := cb_ex R A I (by omega)
      obtain ⟨I1, I2⟩ := iv_two I hn (ep ▸ hnon)
      rw [← ep] at I1 I2
      have c1 := (cnt_two I1.l0 (Rat.le_of_lt I1.lh) I1.h1 R.inc I1.nl I1.nh).1
      have c2 := (cnt_two I2.l0 (Rat.le_of_lt I2.lh) I2.h1 R.inc I2.nl I2.nh).1
      have ek : cnt (fns fs) hi - cnt (fns fs) lo = (cnt (fns fs) p - cnt (fns fs) lo) + (cnt (fns fs) hi - cnt (fns fs) p) := by omega
      have em : (cnt (fns fs) hi - cnt (fns fs) lo) * (j + 1) = (cnt (fns fs) p - cnt (fns fs) lo) * j + (cnt (fns fs) hi - cnt (fns fs) p) * j + (cnt (fns fs) hi - cnt (fns fs) lo) := by
        rw [Nat.mul_succ]
        conv => lhs; arg 1; rw [ek]
        rw [Nat.add_mul]
      rw [em] at hf ⊢
      obtain ⟨n1, e1, g1, l1, o1, b1⟩ := ih (t + 1) p hi (by omega) I2 (ws ++ [(lo, p)]) (f0 ++ [p]) (by rw [List.length_append]; show _ + 1 ≤ _; omega) (by rw [List.length_append]; show _ + 1 + _ ≤ _; omega)
      obtain ⟨n2, e2, g2, l2, o2, b2⟩ := ih (t + 1) lo p (by omega) I1 ws (f0 ++ [p] ++ e1) (by omega) (by rw [List.length_append, List.length_append]; show _ + 1 + _ + _ ≤ _; omega)
      have p0 : 0 < p := by have := I1.lh; have := I1.l0; grind
      have p1 : p < 1 := by have := I2.lh; have := I2.h1; grind
      refine ⟨n2 + n1 + 1, p :: (e1 ++ e2), fun n0 fin h => ?_, ?_, fun x hx => ?_, ?_⟩
      · have h1 := g2 n0 fin (by rw [List.append_assoc, List.append_assoc]; exact h)
        have h2 := g1 _ fin h1
        rw [List.append_assoc] at h2
        have h3 := Cuts.split hm hok cb (by omega) (by omega) h2
        rw [show n0 + (n2 + n1 + 1) = n0 + n2 + n1 + 1 by omega]
        exact h3
      · rw [List.length_cons, List.length_append]
        omega
      · rcases List.mem_cons.mp hx with rfl | hx
        · exact ⟨p0, p1, hq, hnon⟩
        · rcases List.mem_append.mp hx with hx | hx
          · exact o1 x hx
          · exact o2 x hx
      · intro hb
        by_cases hp : s * sgF fs p < 0
        · exact .inl ⟨p, List.mem_cons_self, hp⟩
        · have side : (s * sgF fs lo < 0 ∨ s * sgF fs p < 0 ∨ ∃ q ∈ fs, q.2 ≠ 2 ∧ Flip q lo p) ∨ (s * sgF fs p < 0 ∨ s * sgF fs hi < 0 ∨ ∃ q ∈ fs, q.2 ≠ 2 ∧ Flip q p hi) := by
            rcases hb with hb | hb | ⟨q, hq, h2, f1, f2⟩
            · exact .inl (.inl hb)
            · exact .inr (.inr (.inl hb))
            · rcases sgR_cases (evQ q.1 p) with y | y | y
              · exact .inl (.inr (.inr ⟨q, hq, h2, f1, y.1⟩))
              · exact .inr (.inr (.inr ⟨q, hq, h2, y.1, f2⟩))
              · exact absurd y.1 (hnon q hq)
          rcases side with hb | hb
          · rcases b2 hb with ⟨x, hx, h⟩ | h | h | h
            · exact .inl ⟨x, List.mem_cons_of_mem _ (List.mem_append_right _ hx), h⟩
            · exact .inr (.inl h)
            · exact absurd h.2 hp
            · exact absurd h.2.1 (by grind)
          · rcases b1 hb with ⟨x, hx, h⟩ | h | h | h
            · exact .inl ⟨x, List.mem_cons_of_mem _ (List.mem_append_left _ hx), h⟩
            · exact absurd h.2 hp
            · exact .inr (.inr (.inl h))
            · exact absurd h.1 (by grind)
    · exact ⟨1, [], fun n0 fin h => .skip hm hok (by rw [List.append_nil] at h; exact h), Nat.zero_le _, (fun x h => by cases h), leaf_ok R.inc hS hs I hm⟩
end Kq

set_option Elab.async false
set_option linter.all false
set_option maxRecDepth 100000
set_option maxHeartbeats 1000000
/-! the factors of the law: without shared factors -/
namespace Kq
theorem cop_a_d : Cop (evQ [-1, 1, 1]) (dv [-1, 1, 1]) := ⟨evQ [(-4 / 5 : Rat)], evQ [(1 / 5 : Rat), (2 / 5 : Rat)], pf_ev _, pf_ev _, fun x => by simp only [evQ_cons, evQ_nil, dv_cons, dv_nil]; grind⟩
theorem cop_a_b : Cop (evQ [-1, 1, 1]) (evQ [-1, 0, 2]) := ⟨evQ [(2 : Rat), (4 : Rat)], evQ [(-3 : Rat), (-2 : Rat)], pf_ev _, pf_ev _, fun x => by simp only [evQ_cons, evQ_nil]; grind⟩
theorem cop_a_c : Cop (evQ [-1, 1, 1]) (evQ [-1 / 2, 0, 1, 3]) := ⟨evQ [(-8 / 5 : Rat), (-2 : Rat), (-12 / 5 : Rat)], evQ [(6 / 5 : Rat), (4 / 5 : Rat)], pf_ev _, pf_ev _, fun x => by simp only [evQ_cons, evQ_nil]; grind⟩
theorem cop_a_p : Cop (evQ [-1, 1, 1]) (evQ [0, 1]) := ⟨evQ [(-1 : Rat)], evQ [(1 : Rat), (1 : Rat)], pf_ev _, pf_ev _, fun x => by simp only [evQ_cons, evQ_nil]; grind⟩
theorem cop_a_q : Cop (evQ [-1, 1, 1]) (evQ [1, -1]) := ⟨evQ [(1 : Rat)], evQ [(2 : Rat), (1 : Rat)], pf_ev _, pf_ev _, fun x => by simp only [evQ_cons, evQ_nil]; grind⟩
theorem cop_a_r : Cop (evQ [-1, 1, 1]) (evQ [1, 0, 1]) := ⟨evQ [(-2 / 5 : Rat), (-1 / 5 : Rat)], evQ [(3 / 5 : Rat), (1 / 5 : Rat)], pf_ev _, pf_ev _, fun x => by simp only [evQ_cons, evQ_nil]; grind⟩
theorem cop_a_s : Cop (evQ [-1, 1, 1]) (evQ [1, -2, 3]) := ⟨evQ [(-2 / 11 : Rat), (-15 / 11 : Rat)], evQ [(9 / 11 : Rat), (5 / 11 : Rat)], pf_ev _, pf_ev _, fun x => by simp only [evQ_cons, evQ_nil]; grind⟩
theorem cop_b_d : Cop (evQ [-1, 0, 2]) (dv [-1, 0, 2]) := ⟨evQ [(-1 : Rat)], evQ [(0 : Rat), (1 / 2 : Rat)], pf_ev _, pf_ev _, fun x => by simp only [evQ_cons, evQ_nil, dv_cons, dv_nil]; grind⟩
theorem cop_b_c : Cop (evQ [-1, 0, 2]) (evQ [-1 / 2, 0, 1, 3]) := ⟨evQ [(-1 : Rat), (-2 / 3 : Rat), (-2 : Rat)], evQ [(0 : Rat), (4 / 3 : Rat)], pf_ev _, pf_ev _, fun x => by simp only [evQ_cons, evQ_nil]; grind⟩
theorem cop_b_p : Cop (evQ [-1, 0, 2]) (evQ [0, 1]) := ⟨evQ [(-1 : Rat)], evQ [(0 : Rat), (2 : Rat)], pf_ev _, pf_ev _, fun x => by simp only [evQ_cons, evQ_nil]; grind⟩
theorem cop_b_q : Cop (evQ [-1, 0, 2]) (evQ [1, -1]) := ⟨evQ [(1 : Rat)], evQ [(2 : Rat), (2 : Rat)], pf_ev _, pf_ev _, fun x => by simp only [evQ_cons, evQ_nil]; grind⟩
theorem cop_b_r : Cop (evQ [-1, 0, 2]) (evQ [1, 0, 1]) := ⟨evQ [(-1 / 3 : Rat)], evQ [(2 / 3 : Rat)], pf_ev _, pf_ev _, fun x => by simp only [evQ_cons, evQ_nil]; grind⟩
theorem cop_b_s : Cop (evQ [-1, 0, 2]) (evQ [1, -2, 3]) := ⟨evQ [(-7 / 17 : Rat), (-12 / 17 : Rat)], evQ [(10 / 17 : Rat), (8 / 17 : Rat)], pf_ev _, pf_ev _, fun x => by simp only [evQ_cons, evQ_nil]; grind⟩
theorem cop_c_d : Cop (evQ [-1 / 2, 0, 1, 3]) (dv [-1 / 2, 0, 1, 3]) := ⟨evQ [(-2 : Rat), (72 / 235 : Rat)], evQ [(18 / 235 : Rat), (154 / 235 : Rat), (-24 / 235 : Rat)], pf_ev _, pf_ev _, fun x => by simp only [evQ_cons, evQ_nil, dv_cons, dv_nil]; grind⟩
theorem cop_c_p : Cop (evQ [-1 / 2, 0, 1, 3]) (evQ [0, 1]) := ⟨evQ [(-2 : Rat)], evQ [(0 : Rat), (2 : Rat), (6 : Rat)], pf_ev _, pf_ev _, fun x => by simp only [evQ_cons, evQ_nil]; grind⟩
theorem cop_c_q : Cop (evQ [-1 / 2, 0, 1, 3]) (evQ [1, -1]) := ⟨evQ [(2 / 7 : Rat)], evQ [(8 / 7 : Rat), (8 / 7 : Rat), (6 / 7 : Rat)], pf_ev _, pf_ev _, fun x => by simp only [evQ_cons, evQ_nil]; grind⟩
theorem cop_c_r : Cop (evQ [-1 / 2, 0, 1, 3]) (evQ [1, 0, 1]) := ⟨evQ [(-2 / 15 : Rat), (4 / 15 : Rat)], evQ [(14 / 15 : Rat), (2 / 15 : Rat), (-4 / 5 : Rat)], pf_ev _, pf_ev _, fun x => by simp only [evQ_cons, evQ_nil]; grind⟩
theorem cop_c_s : Cop (evQ [-1 / 2, 0, 1, 3]) (evQ [1, -2, 3]) := ⟨evQ [(-10 / 19 : Rat), (-12 / 19 : Rat)], evQ [(14 / 19 : Rat), (22 / 19 : Rat), (12 / 19 : Rat)], pf_ev _, pf_ev _, fun x => by simp only [evQ_cons, evQ_nil]; grind⟩
theorem cop_p_d : Cop (evQ [0, 1]) (dv [0, 1]) := ⟨evQ [], evQ [(1 : Rat)], pf_ev _, pf_ev _, fun x => by simp only [evQ_cons, evQ_nil, dv_cons, dv_nil]; grind⟩
theorem cop_p_q : Cop (evQ [0, 1]) (evQ [1, -1]) := ⟨evQ [(1 : Rat)], evQ [(1 : Rat)], pf_ev _, pf_ev _, fun x => by simp only [evQ_cons, evQ_nil]; grind⟩
theorem cop_p_r : Cop (evQ [0, 1]) (evQ [1, 0, 1]) := ⟨evQ [(0 : Rat), (-1 : Rat)], evQ [(1 : Rat)], pf_ev _, pf_ev _, fun x => by simp only [evQ_cons, evQ_nil]; grind⟩
theorem cop_p_s : Cop (evQ [0, 1]) (evQ [1, -2, 3]) := ⟨evQ [(2 : Rat), (-3 : Rat)], evQ [(1 : Rat)], pf_ev _, pf_ev _, fun x => by simp only [evQ_cons, evQ_nil]; grind⟩
theorem cop_q_d : Cop (evQ [1, -1]) (dv [1, -1]) := ⟨evQ [], evQ [(-1 : Rat)], pf_ev _, pf_ev _, fun x => by simp only [evQ_cons, evQ_nil, dv_cons, dv_nil]; grind⟩
theorem cop_q_r : Cop (evQ [1, -1]) (evQ [1, 0, 1]) := ⟨evQ [(1 / 2 : Rat), (1 / 2 : Rat)], evQ [(1 / 2 : Rat)], pf_ev _, pf_ev _, fun x => by simp only [evQ_cons, evQ_nil]; grind⟩
theorem cop_q_s : Cop (evQ [1, -1]) (evQ [1, -2, 3]) := ⟨evQ [(1 / 2 : Rat), (3 / 2 : Rat)], evQ [(1 / 2 : Rat)], pf_ev _, pf_ev _, fun x => by simp only [evQ_cons, evQ_nil]; grind⟩
theorem cop_r_d : Cop (evQ [1, 0, 1]) (dv [1, 0, 1]) := ⟨evQ [(1 : Rat)], evQ [(0 : Rat), (-1 / 2 : Rat)], pf_ev _, pf_ev _, fun x => by simp only [evQ_cons, evQ_nil, dv_cons, dv_nil]; grind⟩
theorem cop_r_s : Cop (evQ [1, 0, 1]) (evQ [1, -2, 3]) := ⟨evQ [(5 / 4 : Rat), (-3 / 4 : Rat)], evQ [(-1 / 4 : Rat), (1 / 4 : Rat)], pf_ev _, pf_ev _, fun x => by simp only [evQ_cons, evQ_nil]; grind⟩
theorem cop_s_d : Cop (evQ [1, -2, 3]) (dv [1, -2, 3]) := ⟨evQ [(3 / 2 : Rat)], evQ [(1 / 4 : Rat), (-3 / 4 : Rat)], pf_ev _, pf_ev _, fun x => by simp only [evQ_cons, evQ_nil, dv_cons, dv_nil]; grind⟩
end Kq

set_option Elab.async false
set_option linter.all false
set_option maxRecDepth 100000
set_option maxHeartbeats 1000000
/-! the factors of the law with one root between 0 and 1 -/
namespace Kq
def linF (r : Rat) : List Rat := [((-r.num : Int) : Rat), ((r.den : Int) : Rat)]
theorem evQ_lin (r x : Rat) : evQ (linF r) x = ((r.den : Int) : Rat) * (x - r) := by
  unfold linF
  rw [evQ_cons, evQ_cons, evQ_nil, Rat.intCast_neg, ← num_den r]
  grind
theorem dv_lin (r x : Rat) : dv (linF r) x = ((r.den : Int) : Rat) := by
  unfold linF
  rw [dv_cons, dv_cons, dv_nil, evQ_cons, evQ_nil]
  grind
theorem den0 (r : Rat) : (0 : Rat) < ((r.den : Int) : Rat) := Rat.intCast_pos.mpr (by have := r.den_pos; omega)
theorem evQ_a (x : Rat) : evQ [-1, 1, 1] x = x * x + x - 1 := by simp only [evQ_cons, evQ_nil]; grind
theorem evQ_b (x : Rat) : evQ [-1, 0, 2] x = 2 * (x * x) - 1 := by simp only [evQ_cons, evQ_nil]; grind
theorem evQ_c (x : Rat) : evQ [-1 / 2, 0, 1, 3] x = 3 * (x * x * x) + x * x - 1 / 2 := by simp only [evQ_cons, evQ_nil]; grind
theorem evQ_r (x : Rat) : evQ [1, 0, 1] x = 1 + x * x := by simp only [evQ_cons, evQ_nil]; grind
theorem evQ_s (x : Rat) : evQ [1, -2, 3] x = 1 - 2 * x + 3 * (x * x) := by simp only [evQ_cons, evQ_nil]; grind
/-! ### whole numbers: no root of a, b or c is a ratio -/
theorem two_cases (n : Int) : (∃ a, n = 2 * a) ∨ ∃ a, n = 2 * a + 1 := by
  rcases Int.emod_two_eq n with h | h
  · exact .inl ⟨n / 2, by omega⟩
  · exact .inr ⟨n / 2, by omega⟩
theorem not_both {n d : Int} (h : Int.gcd n d = 1) {a b : Int} (e1 : n = 2 * a) (e2 : d = 2 * b) : False := by
  have h1 : (2 : Int) ∣ ((Int.gcd n d : Nat) : Int) := Int.dvd_coe_gcd ⟨a, e1⟩ ⟨b, e2⟩
  rw [h] at h1
  omega
theorem irr_a {n d : Int} (h : Int.gcd n d = 1) : n * n + n * d - d * d ≠ 0 := fun z => by
  rcases two_cases n with ⟨a, e1⟩ | ⟨a, e1⟩ <;> rcases two_cases d with ⟨b, e2⟩ | ⟨b, e2⟩
  · exact not_both h e1 e2
  · have : 2 * (2 * a * a + a * (2 * b + 1) - 2 * b * b - 2 * b) - 1 = 0 := by rw [← z, e1, e2]; grind
    omega
  · have : 2 * (2 * a * a + 2 * a + (2 * a + 1) * b - 2 * b * b) + 1 = 0 := by rw [← z, e1, e2]; grind
    omega
  · have : 2 * (2 * a * a + 2 * a + 2 * a * b + a + b - 2 * b * b - 2 * b) + 1 = 0 := by rw [← z, e1, e2]; grind
    omega
theorem irr_b {n d : Int} (h : Int.gcd n d = 1) : 2 * (n * n) - d * d ≠ 0 := fun z => by
  rcases two_cases d with ⟨b, e2⟩ | ⟨b, e2⟩
  · rcases two_cases n with ⟨a, e1⟩ | ⟨a, e1⟩
    · exact not_both h e1 e2
    · have : 2 * (2 * (2 * a * a + 2 * a - b * b) + 1) = 0 := by rw [← z, e1, e2]; grind
      omega
  · have : 2 * (n * n - 2 * b * b - 2 * b) - 1 = 0 := by rw [← z, e2]; grind
    omega
theorem irr_c {n d : Int} (h : Int.gcd n d = 1) : 6 * (n * n * n) + 2 * (n * n) * d - d * d * d ≠ 0 := fun z => by
  rcases two_cases d with ⟨b, e2⟩ | ⟨b, e2⟩
  · rcases two_cases n with ⟨a, e1⟩ | ⟨a, e1⟩
    · exact not_both h e1 e2
    · have : 2 * (2 * (12 * a * a * a + 18 * a * a + 9 * a + 1 + (2 * a + 1) * (2 * a + 1) * b - 2 * b * b * b) + 1) = 0 := by rw [← z, e1, e2]; grind
      omega
  · have : 2 * (3 * (n * n * n) + n * n * d - 4 * b * b * b - 6 * b * b - 3 * b) - 1 = 0 := by
      rw [← z, e2]; grind
    omega
/-! ### between 0 and 1 -/
theorem inc_lin (r : Rat) : Inc (evQ (linF r)) := fun u v _ h _ => by
  rw [evQ_lin, evQ_lin]
  exact Rat.mul_lt_mul_of_pos_left (by grind) (den0 r)
theorem inc_a : Inc (evQ [-1, 1, 1]) := fun u v h0 h h1 => by
  rw [evQ_a, evQ_a]
  have := Rat.mul_pos (show 0 < v - u by grind) (show 0 < v + u + 1 by grind)
  grind
theorem inc_b : Inc (evQ [-1, 0, 2]) := fun u v h0 h h1 => by
  rw [evQ_b, evQ_b]
  have := Rat.mul_pos (show 0 < v - u by grind) (show 0 < v + u by grind)
  grind
theorem inc_c : Inc (evQ [-1 / 2, 0, 1, 3]) := fun u v h0 h h1 => by
  rw [evQ_c, evQ_c]
  have a1 := Rat.mul_pos (show 0 < v - u by grind) (show 0 < v + u by grind)
  have b1 := Rat.mul_nonneg (show 0 ≤ v by grind) (show 0 ≤ v by grind)
  have b2 := Rat.mul_nonneg (show 0 ≤ u by grind) (show 0 ≤ v by grind)
  have b3 := Rat.mul_nonneg (show 0 ≤ u by grind) (show 0 ≤ u by grind)
  have a2 := Rat.mul_nonneg (show 0 ≤ v - u by grind) (show 0 ≤ v * v + u * v + u * u by grind)
  grind
/-- steady -/
def Lip11 (f : Rat → Rat) : Prop := ∀ u v, 0 ≤ u → u ≤ v → v ≤ 1 → f v - f u ≤ 11 * (v - u)
theorem lip_a : Lip11 (evQ [-1, 1, 1]) := fun u v h0 h h1 => by
  rw [evQ_a, evQ_a]
  have := Rat.mul_nonneg (show 0 ≤ v - u by grind) (show 0 ≤ 10 - v - u by grind)
  grind
theorem lip_b : Lip11 (evQ [-1, 0, 2]) := fun u v h0 h h1 => by
  rw [evQ_b, evQ_b]
  have := Rat.mul_nonneg (show 0 ≤ v - u by grind) (show 0 ≤ 11 - 2 * v - 2 * u by grind)
  grind
theorem lip_c : Lip11 (evQ [-1 / 2, 0, 1, 3]) := fun u v h0 h h1 => by
  rw [evQ_c, evQ_c]
  have b1 := Rat.mul_le_mul_of_nonneg_left h1 (show 0 ≤ v by grind)
  have b2 := Rat.mul_le_mul_of_nonneg_left h1 h0
  have b3 := Rat.mul_le_mul_of_nonneg_left (show u ≤ 1 by grind) h0
  have := Rat.mul_nonneg (show 0 ≤ v - u by grind) (show 0 ≤ 11 - 3 * (v * v + u * v + u * u) - (v + u) by grind)
  grind
/-- what a constant factor is at a ratio -/
def Val (f : Rat → Rat) : Prop := ∀ r : Rat, ∃ z : Int, z ≠ 0 ∧ f r * (2 * ((r.den : Int) : Rat) * ((r.den : Int) : Rat) * ((r.den : Int) : Rat)) = (z : Rat)
theorem red (r : Rat) : Int.gcd r.num (r.den : Int) = 1 := r.reduced
theorem val_a : Val (evQ [-1, 1, 1]) := fun r => ⟨2 * (r.den : Int) * (r.num * r.num + r.num * (r.den : Int) - (r.den : Int) * (r.den : Int)), by
  have h1 := irr_a (red r)
  have h2 := r.den_pos
  exact Int.mul_ne_zero (by omega) h1, by
  simp only [Rat.intCast_add, Rat.intCast_mul, Rat.intCast_sub]
  rw [evQ_a, ← num_den r]
  have : ((2 : Int) : Rat) = 2 := rfl
  grind⟩
theorem val_b : Val (evQ [-1, 0, 2]) := fun r => ⟨2 * (r.den : Int) * (2 * (r.num * r.num) - (r.den : Int) * (r.den : Int)), by
  have h1 := irr_b (red r)
  have h2 := r.den_pos
  exact Int.mul_ne_zero (by omega) h1, by
  simp only [Rat.intCast_add, Rat.intCast_mul, Rat.intCast_sub]
  rw [evQ_b, ← num_den r]
  have : ((2 : Int) : Rat) = 2 := rfl
  grind⟩
theorem val_c : Val (evQ [-1 / 2, 0, 1, 3]) := fun r => ⟨6 * (r.num * r.num * r.num) + 2 * (r.num * r.num) * (r.den : Int) - (r.den : Int) * (r.den : Int) * (r.den : Int), irr_c (red r), by
  simp only [Rat.intCast_add, Rat.intCast_mul, Rat.intCast_sub]
  rw [evQ_c, ← num_den r]
  have : ((2 : Int) : Rat) = 2 := rfl
  have : ((6 : Int) : Rat) = 6 := rfl
  grind⟩
theorem Val.ne {f : Rat → Rat} (h : Val f) (r : Rat) : f r ≠ 0 := fun z => by
  obtain ⟨w, hw, e⟩ := h r
  rw [z, Rat.zero_mul] at e
  exact hw (Rat.intCast_eq_zero_iff.mp e.symm)
/-! ### far from each other -/
def Sp2 (f g : List Rat) : Prop := ∀ u v, 0 ≤ u → u < v → v ≤ 1 → (evQ f u < 0 ∧ 0 < evQ f v) → (evQ g u < 0 ∧ 0 < evQ g v) → 1 ≤ (v - u) * (c96 : Rat)
theorem Sp2.symm {f g : List Rat} (h : Sp2 f g) : Sp2 g f := fun u v a b c d e => h u v a b c e d
theorem c96_le {n : Nat} (h : n ≤ c96) : (n : Rat) ≤ (c96 : Rat) := Rat.natCast_le_natCast.mpr h
theorem lin_flip {r u v : Rat} (h : evQ (linF r) u < 0 ∧ 0 < evQ (linF r) v) : u < r ∧ r < v := by
  rw [evQ_lin, evQ_lin] at h
  have hd := den0 r
  refine ⟨Rat.not_le.mp fun z => ?_, Rat.not_le.mp fun z => ?_⟩
  · have := Rat.mul_nonneg (Rat.le_of_lt hd) (show 0 ≤ u - r by grind)
    grind
  · have := Rat.mul_nonneg (Rat.le_of_lt hd) (show 0 ≤ r - v by grind)
    grind
theorem sp_lin_k {r : Rat} {f : List Rat} (hd : r.den ≤ 1000000001) (h0 : 0 < r) (h1 : r < 1) (hl : Lip11 (evQ f)) (hv : Val (evQ f)) : Sp2 (linF r) f := fun u v u0 uv v1 a b => by
  obtain ⟨r1, r2⟩ := lin_flip a
  obtain ⟨z, hz, e⟩ := hv r
  have l1 := hl u r u0 (by grind) (by grind)
  have l2 := hl r v (by grind) (by grind) v1
  have hdd := den0 r
  have hq : 22 * (r.den * r.den * r.den) ≤ c96 := by
    have h2 : r.den * r.den * r.den ≤ 1000000001 * 1000000001 * 1000000001 := Nat.mul_le_mul (Nat.mul_le_mul hd hd) hd
    unfold c96
    omega
  have hq2 := c96_le hq
  rw [Rat.natCast_mul, Rat.natCast_mul, Rat.natCast_mul] at hq2
  have e3 : (r.den : Rat) = ((r.den : Int) : Rat) := rfl
  have e22 : ((22 : Nat) : Rat) = 22 := rfl
  rw [e3, e22] at hq2
  generalize ((r.den : Int) : Rat) = d at *
  have hd3 : 0 < d * d * d := Rat.mul_pos (Rat.mul_pos hdd hdd) hdd
  have hw := Rat.mul_le_mul_of_nonneg_left hq2 (show 0 ≤ v - u by grind)
  generalize (c96 : Rat) = c at *
  have key : 1 ≤ 11 * (v - u) * (2 * (d * d * d)) := by
    rcases Int.lt_or_gt_of_ne hz with s | s
    · have s1 : (z : Rat) ≤ ((-1 : Int) : Rat) := Rat.intCast_le_intCast.mpr (by omega)
      have s2 : ((-1 : Int) : Rat) = -1 := rfl
      have m := Rat.mul_le_mul_of_nonneg_right (show -(evQ f r) ≤ 11 * (v - u) by grind) (show 0 ≤ 2 * (d * d * d) by grind)
      grind
    · have s1 : ((1 : Int) : Rat) ≤ (z : Rat) := Rat.intCast_le_intCast.mpr (by omega)
      have s2 : ((1 : Int) : Rat) = 1 := rfl
      have m := Rat.mul_le_mul_of_nonneg_right (show evQ f r ≤ 11 * (v - u) by grind) (show 0 ≤ 2 * (d * d * d) by grind)
      grind
  grind
end Kq

set_option Elab.async false
set_option linter.all false
set_option maxRecDepth 100000
set_option maxHeartbeats 1000000
/-! the factors of the law: far from each other, without shared factors -/
namespace Kq
theorem sp_lin_lin {r s : Rat} (hr : r.den ≤ 1000000001) (hs : s.den ≤ 1000000001) (hne : r ≠ s) : Sp2 (linF r) (linF s) := fun u v u0 uv v1 a b => by
  obtain ⟨r1, r2⟩ := lin_flip a
  obtain ⟨s1, s2⟩ := lin_flip b
  have hd := den0 r
  have he := den0 s
  have n1 := num_den r
  have n2 := num_den s
  have hz : r.num * (s.den : Int) - s.num * (r.den : Int) ≠ 0 := fun z => by
    have h : ((r.num * (s.den : Int) - s.num * (r.den : Int) : Int) : Rat) = 0 := by rw [z]; rfl
    rw [Rat.intCast_sub, Rat.intCast_mul, Rat.intCast_mul, ← n1, ← n2] at h
    have h2 : (r - s) * (((r.den : Int) : Rat) * ((s.den : Int) : Rat)) = 0 := by grind
    rcases Rat.mul_eq_zero.mp h2 with z | z
    · exact hne (by grind)
    · have := Rat.mul_pos hd he
      grind
  have hq : r.den * s.den ≤ c96 := by
    have h2 : r.den * s.den ≤ 1000000001 * 1000000001 := Nat.mul_le_mul hr hs
    unfold c96
    omega
  have hq2 := c96_le hq
  rw [Rat.natCast_mul] at hq2
  have e3 : (r.den : Rat) = ((r.den : Int) : Rat) := rfl
  have e4 : (s.den : Rat) = ((s.den : Int) : Rat) := rfl
  rw [e3, e4] at hq2
  have hval : (r - s) * (((r.den : Int) : Rat) * ((s.den : Int) : Rat)) = ((r.num * (s.den : Int) - s.num * (r.den : Int) : Int) : Rat) := by
    rw [Rat.intCast_sub, Rat.intCast_mul, Rat.intCast_mul, ← n1, ← n2]
    grind
  have hw := Rat.mul_le_mul_of_nonneg_left hq2 (show 0 ≤ v - u by grind)
  have hp := Rat.mul_pos hd he
  generalize ((r.den : Int) : Rat) * ((s.den : Int) : Rat) = d at *
  rcases Int.lt_or_gt_of_ne hz with w | w
  · have s3 : ((r.num * (s.den : Int) - s.num * (r.den : Int) : Int) : Rat) ≤ ((-1 : Int) : Rat) := Rat.intCast_le_intCast.mpr (by omega)
    have s4 : ((-1 : Int) : Rat) = -1 := rfl
    have m := Rat.mul_le_mul_of_nonneg_right (show -(r - s) ≤ v - u by grind) (Rat.le_of_lt hp)
    grind
  · have s3 : ((1 : Int) : Rat) ≤ ((r.num * (s.den : Int) - s.num * (r.den : Int) : Int) : Rat) := Rat.intCast_le_intCast.mpr (by omega)
    have s4 : ((1 : Int) : Rat) = 1 := rfl
    have m := Rat.mul_le_mul_of_nonneg_right (show r - s ≤ v - u by grind) (Rat.le_of_lt hp)
    grind
/-- where the roots of a, b, c are -/
theorem at_a {u : Rat} (h0 : 0 ≤ u) (h1 : u ≤ 1) : (evQ [-1, 1, 1] u < 0 → u ≤ 62 / 100) ∧ (0 < evQ [-1, 1, 1] u → 60 / 100 ≤ u) := by
  rw [evQ_a]
  refine ⟨fun h => Rat.not_lt.mp fun z => ?_, fun h => Rat.not_lt.mp fun z => ?_⟩
  · have := Rat.mul_pos (show 0 < u - 62 / 100 by grind) (show 0 < u + 62 / 100 + 1 by grind)
    grind
  · have := Rat.mul_pos (show 0 < 60 / 100 - u by grind) (show 0 < u + 60 / 100 + 1 by grind)
    grind
theorem at_b {u : Rat} (h0 : 0 ≤ u) (h1 : u ≤ 1) : (evQ [-1, 0, 2] u < 0 → u ≤ 72 / 100) ∧ (0 < evQ [-1, 0, 2] u → 70 / 100 ≤ u) := by
  rw [evQ_b]
  refine ⟨fun h => Rat.not_lt.mp fun z => ?_, fun h => Rat.not_lt.mp fun z => ?_⟩
  · have := Rat.mul_pos (show 0 < u - 72 / 100 by grind) (show 0 < u + 72 / 100 by grind)
    grind
  · have := Rat.mul_pos (show 0 < 70 / 100 - u by grind) (show 0 < u + 70 / 100 by grind)
    grind
theorem at_c {u : Rat} (h0 : 0 ≤ u) (h1 : u ≤ 1) : (evQ [-1 / 2, 0, 1, 3] u < 0 → u ≤ 50 / 100) ∧ (0 < evQ [-1 / 2, 0, 1, 3] u → 40 / 100 ≤ u) := by
  rw [evQ_c]
  refine ⟨fun h => Rat.not_lt.mp fun z => ?_, fun h => Rat.not_lt.mp fun z => ?_⟩
  · have a := Rat.mul_pos (show 0 < u - 50 / 100 by grind) (show 0 < u + 50 / 100 by grind)
    have b := Rat.mul_pos a (show 0 < u by grind)
    grind
  · have a := Rat.mul_nonneg h0 (show 0 ≤ 40 / 100 - u by grind)
    have b := Rat.mul_nonneg h0 a
    grind
theorem ten_c : (100 : Rat) ≤ (c96 : Rat) := by
  have := c96_le (n := 100) (by unfold c96; decide)
  exact this
theorem far8 {x : Rat} (h : 8 / 100 ≤ x) : 1 ≤ x * (c96 : Rat) := by
  have := Rat.mul_le_mul_of_nonneg_right h (show (0 : Rat) ≤ (c96 : Rat) by have := ten_c; grind)
  have := ten_c
  grind
theorem sp_a_b : Sp2 [-1, 1, 1] [-1, 0, 2] := fun u v u0 uv v1 a b => far8 (by
  have h1 := (at_a u0 (by grind)).1 a.1
  have h2 := (at_b (u := v) (by grind) v1).2 b.2
  grind)
theorem sp_a_c : Sp2 [-1, 1, 1] [-1 / 2, 0, 1, 3] := fun u v u0 uv v1 a b => far8 (by
  have h1 := (at_c u0 (by grind)).1 b.1
  have h2 := (at_a (u := v) (by grind) v1).2 a.2
  grind)
theorem sp_b_c : Sp2 [-1, 0, 2] [-1 / 2, 0, 1, 3] := fun u v u0 uv v1 a b => far8 (by
  have h1 := (at_c u0 (by grind)).1 b.1
  have h2 := (at_b (u := v) (by grind) v1).2 a.2
  grind)
theorem sp_root {f g : List Rat} (hf : RootFac f) (hg : RootFac g) (hne : f ≠ g) : Sp2 f g := by
  cases hf with
  | lin r h0 h1 hd =>
    cases hg with
    | lin s k0 k1 ke => exact sp_lin_lin hd ke fun e => hne (by rw [e])
    | a => exact sp_lin_k hd h0 h1 lip_a val_a
    | b => exact sp_lin_k hd h0 h1 lip_b val_b
    | c => exact sp_lin_k hd h0 h1 lip_c val_c
  | a =>
    cases hg with
    | lin s k0 k1 ke => exact (sp_lin_k ke k0 k1 lip_a val_a).symm
    | a => exact absurd rfl hne
    | b => exact sp_a_b
    | c => exact sp_a_c
  | b =>
    cases hg with
    | lin s k0 k1 ke => exact (sp_lin_k ke k0 k1 lip_b val_b).symm
    | a => exact sp_a_b.symm
    | b => exact absurd rfl hne
    | c => exact sp_b_c
  | c =>
    cases hg with
    | lin s k0 k1 ke => exact (sp_lin_k ke k0 k1 lip_c val_c).symm
    | a => exact sp_a_c.symm
    | b => exact sp_b_c.symm
    | c => exact absurd rfl hne
theorem inc_root {f : List Rat} (h : RootFac f) : Inc (evQ f) := by
  cases h with
  | lin r h0 h1 hd => exact inc_lin r
  | a => exact inc_a
  | b => exact inc_b
  | c => exact inc_c
theorem ends_root {f : List Rat} (h : RootFac f) : evQ f 0 < 0 ∧ 0 < evQ f 1 := by
  cases h with
  | lin r h0 h1 hd =>
    show evQ (linF r) 0 < 0 ∧ 0 < evQ (linF r) 1
    rw [evQ_lin, evQ_lin]
    have a := Rat.mul_pos (den0 r) h0
    have b := Rat.mul_pos (den0 r) (show 0 < 1 - r by grind)
    exact ⟨by grind, by grind⟩
  | a => rw [evQ_a, evQ_a]; exact ⟨by grind, by grind⟩
  | b => rw [evQ_b, evQ_b]; exact ⟨by grind, by grind⟩
  | c => rw [evQ_c, evQ_c]; exact ⟨by grind, by grind⟩
theorem den_far {r x : Rat} (hd : r.den ≤ 1000000001) (h : 1 ≤ ((r.den : Int) : Rat) * x) : 1 ≤ x * (c96 : Rat) := by
  have h1 := c96_le (n := r.den) (by unfold c96; omega)
  have e3 : (r.den : Rat) = ((r.den : Int) : Rat) := rfl
  rw [e3] at h1
  have hd0 := den0 r
  generalize ((r.den : Int) : Rat) = d at *
  have hx : 0 ≤ x := Rat.not_lt.mp fun z => by
    have := Rat.mul_pos hd0 (show 0 < -x by grind)
    grind
  have := Rat.mul_le_mul_of_nonneg_right h1 hx
  grind
theorem start_root {f : List Rat} (h : RootFac f) {v : Rat} (v0 : 0 < v) (v1 : v ≤ 1) (hv : 0 < evQ f v) : 1 ≤ v * (c96 : Rat) := by
  cases h with
  | lin r h0 h1 hd =>
    have e : evQ (linF r) v = _ := evQ_lin r v
    have hv' : 0 < evQ (linF r) v := hv
    rw [e] at hv'
    have hn : 0 < r.num := by simpa using (Rat.lt_iff 0 r).mp h0
    have n1 : ((1 : Int) : Rat) ≤ (r.num : Rat) := Rat.intCast_le_intCast.mpr (by omega)
    have n2 : ((1 : Int) : Rat) = 1 := rfl
    have n3 := num_den r
    exact den_far hd (by grind)
  | a => exact far8 (by have := (at_a (u := v) (by grind) v1).2 hv; grind)
  | b => exact far8 (by have := (at_b (u := v) (by grind) v1).2 hv; grind)
  | c => exact far8 (by have := (at_c (u := v) (by grind) v1).2 hv; grind)
theorem end_root {f : List Rat} (h : RootFac f) {u : Rat} (u0 : 0 ≤ u) (u1 : u < 1) (hu : evQ f u < 0) : 1 ≤ (1 - u) * (c96 : Rat) := by
  cases h with
  | lin r h0 h1 hd =>
    have e : evQ (linF r) u = _ := evQ_lin r u
    have hu' : evQ (linF r) u < 0 := hu
    rw [e] at hu'
    have hn : r.num < (r.den : Int) := by simpa using (Rat.lt_iff r 1).mp h1
    have n1 : (r.num : Rat) ≤ (((r.den : Int) - 1 : Int) : Rat) := Rat.intCast_le_intCast.mpr (by omega)
    rw [Rat.intCast_sub] at n1
    have n2 : ((1 : Int) : Rat) = 1 := rfl
    have n3 := num_den r
    exact den_far hd (by grind)
  | a => exact far8 (by have := (at_a u0 (by grind)).1 hu; grind)
  | b => exact far8 (by have := (at_b u0 (by grind)).1 hu; grind)
  | c => exact far8 (by have := (at_c u0 (by grind)).1 hu; grind)
/-! ### without shared factors -/
theorem factor_at (r : Rat) : ∀ l : List Rat, ∃ q, PF q ∧ ∀ x, evQ l x = evQ l r + (x - r) * q x
  | [] => ⟨fun _ => 0, pf_const 0, fun x => by rw [evQ_nil, evQ_nil]; grind⟩
  | c :: l => by
    obtain ⟨q, pq, h⟩ := factor_at r l
    refine ⟨fun x => q x * x + evQ l r, (pq.mul pf_x).add (pf_const _), fun x => ?_⟩
    rw [evQ_cons, evQ_cons, h x]
    grind
theorem cop_lin {r : Rat} {f : List Rat} (h : evQ f r ≠ 0) : Cop (evQ (linF r)) (evQ f) := by
  obtain ⟨q, pq, e⟩ := factor_at r f
  have hd := den0 r
  refine ⟨fun x => -(1 / (((r.den : Int) : Rat) * evQ f r)) * q x, fun _ => 1 / evQ f r, pq.smul _, pf_const _, fun x => ?_⟩
  rw [evQ_lin, e x]
  have hd' : ((r.den : Int) : Rat) ≠ 0 := by grind
  generalize ((r.den : Int) : Rat) = d at *
  generalize evQ f r = w at *
  grind
theorem cop_lin_d (r : Rat) : Cop (evQ (linF r)) (dv (linF r)) := by
  have hd := den0 r
  exact cop_c (c := ((r.den : Int) : Rat)) (by grind) (dv_lin r)
theorem cop_root {f g : List Rat} (hf : RootFac f) (hg : RootFac g) (hne : f ≠ g) : Cop (evQ f) (evQ g) := by
  cases hf with
  | lin r h0 h1 hd =>
    refine cop_lin ?_
    cases hg with
    | lin s k0 k1 ke =>
      show evQ (linF s) r ≠ 0
      rw [evQ_lin]
      intro z
      rcases Rat.mul_eq_zero.mp z with z | z
      · have := den0 s; grind
      · exact hne (by rw [show r = s by grind])
    | a => exact val_a.ne r
    | b => exact val_b.ne r
    | c => exact val_c.ne r
  | a =>
    cases hg with
    | lin s k0 k1 ke => exact (cop_lin (val_a.ne s)).symm
    | a => exact absurd rfl hne
    | b => exact cop_a_b
    | c => exact cop_a_c
  | b =>
    cases hg with
    | lin s k0 k1 ke => exact (cop_lin (val_b.ne s)).symm
    | a => exact cop_a_b.symm
    | b => exact absurd rfl hne
    | c => exact cop_b_c
  | c =>
    cases hg with
    | lin s k0 k1 ke => exact (cop_lin (val_c.ne s)).symm
    | a => exact cop_a_c.symm
    | b => exact cop_b_c.symm
    | c => exact absurd rfl hne
theorem cop_root_d {f : List Rat} (h : RootFac f) : Cop (evQ f) (dv f) := by
  cases h with
  | lin r h0 h1 hd => exact cop_lin_d r
  | a => exact cop_a_d
  | b => exact cop_b_d
  | c => exact cop_c_d
theorem cop_root_oth {f g : List Rat} (h : RootFac f) (k : OthFac g) : Cop (evQ f) (evQ g) := by
  cases h with
  | lin r h0 h1 hd =>
    refine cop_lin ?_
    cases k with
    | p => rw [evQ_p]; grind
    | q => rw [evQ_q]; grind
    | r => rw [evQ_r]; have := Rat.mul_pos h0 h0; grind
    | s => rw [evQ_s]; have := Rat.mul_pos h0 h0; have := Rat.mul_nonneg (show 0 ≤ 1 - r by grind) (show 0 ≤ 1 - r by grind); grind
  | a => cases k with
    | p => exact cop_a_p
    | q => exact cop_a_q
    | r => exact cop_a_r
    | s => exact cop_a_s
  | b => cases k with
    | p => exact cop_b_p
    | q => exact cop_b_q
    | r => exact cop_b_r
    | s => exact cop_b_s
  | c => cases k with
    | p => exact cop_c_p
    | q => exact cop_c_q
    | r => exact cop_c_r
    | s => exact cop_c_s
end Kq

set_option Elab.async false
set_option linter.all false
set_option maxRecDepth 100000
set_option maxHeartbeats 1000000
/-! the cuts of a planted polynomial -/
namespace Kq
theorem cnt_le (x : Rat) : ∀ fs : List Fac, cnt (fns fs) x ≤ fs.length
  | [] => Nat.le_refl _
  | p :: fs => by
    rw [cnt_cons, List.length_cons]
    have := cnt_le x fs
    split <;> omega
theorem sgF_one {x : Rat} : ∀ {fs : List Fac}, (∀ p ∈ fs, 0 < evQ p.1 x) → sgF fs x = 1
  | [], _ => rfl
  | p :: fs, h => by
    show (if p.2 = 2 then 1 else sgR (evQ p.1 x)) * sgF fs x = 1
    rw [sgF_one fun q hq => h q (List.mem_cons_of_mem _ hq), sgR_pos (h p List.mem_cons_self)]
    split <;> rfl
theorem qb_half : QB 724 (Rat.divInt 1 2) := by
  have n1 := num_low (a := 1) (b := 2) (by decide)
  have n2 := den_low (a := 1) (b := 2) (by decide)
  have h : (2 : Nat) ^ 2 ≤ 2 ^ 724 := Nat.pow_le_pow_right (by decide) (by decide)
  have e : ((Int.gcd 1 2 : Nat) : Int) = 1 := by decide
  rw [e] at n1 n2
  refine ⟨Nat.lt_of_lt_of_le ?_ h, Nat.lt_of_lt_of_le ?_ h⟩
  · rw [← n1]; decide
  · omega
theorem cuts_ok {f : List Int} {fs gs : List Fac} {W : Rat → Rat} {k : Rat} (R : Roots f fs gs W k) (A : Apart fs) {s : Int} (hs : s = 1 ∨ s = -1) :
    ∃ cs, CutsOf f cs ∧ (∀ x ∈ cs, 0 < x ∧ x < 1 ∧ QB 724 x) ∧ ((s = -1 ∨ ∃ p ∈ fs, p.2 ≠ 2) → ∃ x ∈ cs, Non fs x ∧ s * sgF fs x < 0) := by
  obtain ⟨rows, hrs, hrl, hR, hS⟩ := rows_ex R
  have he : ∀ p ∈ fs, evQ p.1 0 < 0 ∧ 0 < evQ p.1 1 := fun p hp => R.ends _ (List.mem_map_of_mem hp)
  have I : Iv fs 0 0 1 := ⟨by grind, by grind, by grind, fun p hp => by have := (he p hp).1; grind, fun p hp => by have := (he p hp).2; grind, by show (1 - 0 : Rat) * ((1 : Nat) : Rat) ≤ ((1 : Nat) : Rat); have : ((1 : Nat) : Rat) = 1 := rfl; grind,
    1, by decide, by decide, 0, 1, by have : ((0 : Int) : Rat) = 0 := rfl; grind, by have : ((1 : Int) : Rat) = 1 := rfl; have : ((1 : Nat) : Rat) = 1 := rfl; grind⟩
  have hc1 := cnt_le 1 fs
  have hfew := A.few
  obtain ⟨n, e, g, _, o, b⟩ := run R A hR hS hs 310 0 0 1 (by decide) I [] [] (Nat.le_refl _) (by
    have : (cnt (fns fs) 1 - cnt (fns fs) 0) * 310 ≤ 3 * 310 := Nat.mul_le_mul_right _ (by omega)
    show 0 + _ ≤ 1000
    omega)
  have hcuts := g 0 e (.nil _)
  refine ⟨cutsEnd e, ⟨rows, _, e, hrs, hrl, hcuts, rfl⟩, fun x hx => ?_, fun hneg => ?_⟩
  · unfold cutsEnd at hx
    split at hx
    · rw [List.mem_singleton.mp hx]
      have e2 : Rat.divInt 1 2 = (1 : Rat) / 2 := by rw [Rat.divInt_eq_div]; rfl
      refine ⟨by rw [e2]; grind, by rw [e2]; grind, qb_half⟩
    · have := o x hx
      exact ⟨this.1, this.2.1, this.2.2.1⟩
  · have h1 : sgF fs 1 = 1 := sgF_one fun p hp => (he p hp).2
    have hb : s * sgF fs 0 < 0 ∨ s * sgF fs 1 < 0 ∨ ∃ p ∈ fs, p.2 ≠ 2 ∧ Flip p 0 1 := by
      rcases hneg with h | ⟨p, hp, h⟩
      · exact .inr (.inl (by rw [h1, h]; decide))
      · exact .inr (.inr ⟨p, hp, h, he p hp⟩)
    rcases b hb with ⟨x, hx, h⟩ | h | h | ⟨_, _, h, hcn⟩
    · have hne : e ≠ [] := fun z => by rw [z] at hx; cases hx
      refine ⟨x, ?_, (o x hx).2.2.2, h⟩
      unfold cutsEnd
      rw [if_neg hne]
      exact hx
    · exact absurd rfl h.1
    · exact absurd rfl h.1
    · -- no root at all
      have hfs : fs = [] := by
        cases fs with
        | nil => rfl
        | cons p fs =>
          exact absurd (he p List.mem_cons_self) (((cnt_two (by grind) (by grind) (by grind) R.inc I.nl I.nh).2.1 hcn).2 p List.mem_cons_self)
      subst hfs
      have hs1 : s = -1 := hneg.elim id fun ⟨p, hp, _⟩ => by cases hp
      refine ⟨Rat.divInt 1 2, ?_, ⟨fun p hp => (by cases hp), (by rw [hs1]; show (-1 : Int) * 1 < 0; decide)⟩⟩
      unfold cutsEnd
      rw [if_pos h]
      exact List.mem_cons_self
/-! ### the planted polynomial, factor by factor -/
theorem oth_ex : ∀ os : List (List Rat), (∀ o ∈ os, OthFac o) → ∃ n1 n2 n3 n4, n1 + n2 + n3 + n4 = os.length ∧ ∀ x, prodE os x = pwr x n1 * (pwr (1 - x) n2 * (pwr (1 + x * x) n3 * pwr (1 - 2 * x + 3 * (x * x)) n4))
  | [], _ => ⟨0, 0, 0, 0, rfl, fun x => by show (1 : Rat) = 1 * (1 * (1 * 1)); grind⟩
  | o :: os, h => by
    obtain ⟨n1, n2, n3, n4, hn, e⟩ := oth_ex os fun p hp => h p (List.mem_cons_of_mem _ hp)
    rw [List.length_cons]
    cases h o List.mem_cons_self with
    | p => exact ⟨n1 + 1, n2, n3, n4, by omega, fun x => by show evQ [0, 1] x * prodE os x = _; rw [e, evQ_p, pwr_succ]; grind⟩
    | q => exact ⟨n1, n2 + 1, n3, n4, by omega, fun x => by show evQ [1, -1] x * prodE os x = _; rw [e, evQ_q, pwr_succ]; grind⟩
    | r => exact ⟨n1, n2, n3 + 1, n4, by omega, fun x => by show evQ [1, 0, 1] x * prodE os x = _; rw [e, evQ_r, pwr_succ]; grind⟩
    | s => exact ⟨n1, n2, n3, n4 + 1, by omega, fun x => by show evQ [1, -2, 3] x * prodE os x = _; rw [e, evQ_s, pwr_succ]; grind⟩
theorem kd_mem {f : List Rat} {n : Nat} {p : Fac} (h : p ∈ kd f n) : p.1 = f ∧ 1 ≤ p.2 := by
  unfold kd at h
  split at h
  · cases h
  · rw [List.mem_singleton.mp h]
    exact ⟨rfl, by show 1 ≤ n; omega⟩
theorem kd_Ff (f : List Rat) (n : Nat) (x : Rat) : Ff (kd f n) x = pwr (evQ f x) n := by
  unfold kd
  split
  · rename_i h
    rw [h]
    rfl
  · show pwr (evQ f x) n * 1 = _
    grind
theorem kd_dist {f : List Rat} {n : Nat} (h : Cop (evQ f) (dv f)) : Dist (kd f n) := by
  unfold kd
  split
  · trivial
  · exact ⟨by show 1 ≤ n; omega, h, (fun q hq => by cases hq), trivial⟩
theorem kd_len (f : List Rat) (n : Nat) : (kd f n).length ≤ n ∧ (reps (kd f n)).length ≤ n := by
  unfold kd
  split
  · exact ⟨Nat.zero_le _, Nat.zero_le _⟩
  · refine ⟨by show 1 ≤ n; omega, ?_⟩
    show (List.replicate (n - 1) f ++ []).length ≤ n
    rw [List.append_nil, List.length_replicate]
    omega
theorem dist_app : ∀ {gs hs : List Fac}, Dist gs → Dist hs → (∀ p ∈ gs, ∀ q ∈ hs, Cop (evQ p.1) (evQ q.1)) → Dist (gs ++ hs)
  | [], _, _, h, _ => h
  | p :: gs, hs, h, k, c => by
    obtain ⟨h1, h2, h3, h4⟩ := h
    refine ⟨h1, h2, fun q hq => ?_, dist_app h4 k fun r hr => c r (List.mem_cons_of_mem _ hr)⟩
    rcases List.mem_append.mp hq with hq | hq
    · exact h3 q hq
    · exact c p List.mem_cons_self q hq
theorem reps_app : ∀ gs hs : List Fac, reps (gs ++ hs) = reps gs ++ reps hs
  | [], _ => rfl
  | p :: gs, hs => by
    show List.replicate (p.2 - 1) p.1 ++ reps (gs ++ hs) = List.replicate (p.2 - 1) p.1 ++ reps gs ++ reps hs
    rw [reps_app gs hs, List.append_assoc]
/-- what is known of the planted factors -/
structure FsOk (fs : List Fac) : Prop where
  few : fs.length ≤ 3
  fac : ∀ p ∈ fs, RootFac p.1 ∧ 1 ≤ p.2 ∧ p.2 ≤ 3
  nd : (fs.map (·.1)).Nodup
theorem FsOk.tail {p : Fac} {fs : List Fac} (h : FsOk (p :: fs)) : FsOk fs ∧ ∀ q ∈ fs, p.1 ≠ q.1 := by
  have hn : (p.1 :: fs.map (·.1)).Nodup := h.nd
  obtain ⟨h1, h2⟩ := List.nodup_cons.mp hn
  have hf := h.few
  rw [List.length_cons] at hf
  exact ⟨⟨by omega, fun q hq => h.fac q (List.mem_cons_of_mem _ hq), h2⟩, fun q hq e => h1 (by rw [e]; exact List.mem_map_of_mem hq)⟩
theorem fs_dist : ∀ {fs : List Fac}, FsOk fs → Dist fs ∧ (fns fs).Pairwise Cop ∧ (fs.Pairwise fun p q => Sp2 p.1 q.1) ∧ (reps fs).length ≤ 2 * fs.length
  | [], _ => ⟨trivial, .nil, .nil, Nat.le_refl _⟩
  | p :: fs, h => by
    obtain ⟨ht, hne⟩ := h.tail
    obtain ⟨i1, i2, i3, i4⟩ := fs_dist ht
    have hp := h.fac p List.mem_cons_self
    have hq : ∀ q ∈ fs, RootFac q.1 := fun q hq => (h.fac q (List.mem_cons_of_mem _ hq)).1
    refine ⟨⟨hp.2.1, cop_root_d hp.1, fun q hq' => cop_root hp.1 (hq q hq') (hne q hq'), i1⟩, .cons (fun g hg => ?_) i2, .cons (fun q hq' => sp_root hp.1 (hq q hq') (hne q hq')) i3, ?_⟩
    · obtain ⟨q, hq', rfl⟩ := List.mem_map.mp hg
      exact cop_root hp.1 (hq q hq') (hne q hq')
    · show (List.replicate (p.2 - 1) p.1 ++ reps fs).length ≤ _
      rw [List.length_append, List.length_replicate, List.length_cons]
      omega
theorem fs_apart {fs : List Fac} (h : FsOk fs) : Apart fs :=
  ⟨h.few, (fs_dist h).2.2.1.imp fun {p q} k u v a b c d e => k u v a b c d e, fun p hp v a b c => start_root (h.fac p hp).1 a b c, fun p hp u a b c => end_root (h.fac p hp).1 a b c⟩
theorem Pf_fns (x : Rat) : ∀ fs : List Fac, Pf fs x = prodR (fns fs) x
  | [] => rfl
  | p :: fs => by
    show evQ p.1 x * Pf fs x = evQ p.1 x * prodR (fns fs) x
    rw [Pf_fns x fs]
end Kq

set_option Elab.async false
set_option linter.all false
set_option maxRecDepth 100000
set_option maxHeartbeats 1000000
/-! what never_below tells of a planted polynomial -/
namespace Kq
theorem sqn (y : Rat) : 0 ≤ y * y := by
  rcases Rat.le_total (a := 0) (b := y) with h | h
  · exact Rat.mul_nonneg h h
  · have := Rat.mul_nonneg (show 0 ≤ -y by grind) (show 0 ≤ -y by grind)
    grind
theorem oth_pos {x : Rat} (h0 : 0 < x) (h1 : x < 1) : ∀ {os : List (List Rat)}, (∀ o ∈ os, OthFac o) → 0 < prodE os x
  | [], _ => by show (0 : Rat) < 1; decide
  | o :: os, h => by
    refine Rat.mul_pos ?_ (oth_pos h0 h1 fun p hp => h p (List.mem_cons_of_mem _ hp))
    cases h o List.mem_cons_self with
    | p => rw [evQ_p]; exact h0
    | q => rw [evQ_q]; grind
    | r => rw [evQ_r]; have := sqn x; grind
    | s => rw [evQ_s]; have := sqn x; have := sqn (1 - x); have := Rat.mul_pos h0 h0; grind
theorem sgR_pw {y : Rat} (hy : y ≠ 0) {n : Nat} (h1 : 1 ≤ n) (h3 : n ≤ 3) : sgR (pwr y n) = if n = 2 then 1 else sgR y := by
  have hs : sgR y = 1 ∨ sgR y = -1 := by
    rcases sgR_cases y with h | h | h
    · exact .inl h.2
    · exact .inr h.2
    · exact absurd h.1 hy
  have e1 : pwr y 1 = y := by show 1 * y = y; grind
  have e2 : sgR (pwr y 2) = 1 := by
    show sgR (pwr y 1 * y) = 1
    rw [e1, sgR_mul]
    rcases hs with h | h <;> rw [h] <;> rfl
  rcases (show n = 1 ∨ n = 2 ∨ n = 3 by omega) with rfl | rfl | rfl
  · rw [e1]; rfl
  · rw [e2]; rfl
  · show sgR (pwr y 2 * y) = _
    rw [sgR_mul, e2, Int.one_mul]
    rfl
theorem Ff_sg {x : Rat} : ∀ {fs : List Fac}, (∀ p ∈ fs, 1 ≤ p.2 ∧ p.2 ≤ 3) → Non fs x → sgR (Ff fs x) = sgF fs x
  | [], _, _ => by show sgR 1 = 1; exact sgR_pos (by decide)
  | p :: fs, h, hn => by
    show sgR (pwr (evQ p.1 x) p.2 * Ff fs x) = (if p.2 = 2 then 1 else sgR (evQ p.1 x)) * sgF fs x
    have hp := h p List.mem_cons_self
    rw [sgR_mul, Ff_sg (fun q hq => h q (List.mem_cons_of_mem _ hq)) fun q hq => hn q (List.mem_cons_of_mem _ hq), sgR_pw (hn p List.mem_cons_self) hp.1 hp.2]
theorem Ff_even {x : Rat} : ∀ {fs : List Fac}, (∀ p ∈ fs, p.2 = 2) → 0 ≤ Ff fs x
  | [], _ => by show (0 : Rat) ≤ 1; decide
  | p :: fs, h => by
    refine Rat.mul_nonneg ?_ (Ff_even fun q hq => h q (List.mem_cons_of_mem _ hq))
    rw [h p List.mem_cons_self]
    have := sqn (evQ p.1 x)
    show 0 ≤ 1 * evQ p.1 x * evQ p.1 x
    grind
theorem poly_ok {fs : List Fac} {os : List (List Rat)} (hfs : FsOk fs) (hos : ∀ o ∈ os, OthFac o) (h2 : os.length ≤ 2) {F : List Int} {c : Rat} {s : Int} (hs : s = 1 ∨ s = -1) (hc : sgR c = s)
    (hF : ∀ x, evI F x = c * (Ff fs x * prodE os x)) (nF : Norm F) (h0 : F ≠ []) (hl : F.length ≤ 13) (hb : Bd F 386) :
    ∃ f cs, SZ F f ∧ CutsOf f cs ∧ (∀ x ∈ cs, 0 < x ∧ x < 1 ∧ QB 724 x) ∧ ((s = -1 ∨ ∃ p ∈ fs, p.2 ≠ 2) → ∃ x ∈ cs, sgnAt F x < 0) ∧ (s = 1 → (∀ p ∈ fs, p.2 = 2) → ∀ x ∈ cs, ¬ sgnAt F x < 0) := by
  obtain ⟨n1, n2, n3, n4, hn, eo⟩ := oth_ex os hos
  have hc0 : c ≠ 0 := fun z => by rw [z, sgR_zero] at hc; omega
  obtain ⟨d1, d2, d3, d4⟩ := fs_dist hfs
  have hroot : ∀ p ∈ fs, RootFac p.1 := fun p hp => (hfs.fac p hp).1
  -- the factors with those that have no root between 0 and 1
  have dW : Dist (kd [1, 0, 1] n3 ++ kd [1, -2, 3] n4) := dist_app (kd_dist cop_r_d) (kd_dist cop_s_d) fun p hp q hq => by
    rw [(kd_mem hp).1, (kd_mem hq).1]
    exact cop_r_s
  have memW : ∀ {p : Fac}, p ∈ kd [1, 0, 1] n3 ++ kd [1, -2, 3] n4 → p.1 = [1, 0, 1] ∨ p.1 = [1, -2, 3] := fun hp => by
    rcases List.mem_append.mp hp with hp | hp
    · exact .inl (kd_mem hp).1
    · exact .inr (kd_mem hp).1
  have dG : Dist (fs ++ (kd [1, 0, 1] n3 ++ kd [1, -2, 3] n4)) := dist_app d1 dW fun p hp q hq => by
    rcases memW hq with e | e <;> rw [e]
    · exact cop_root_oth (hroot p hp) .r
    · exact cop_root_oth (hroot p hp) .s
  have dQ : Dist (kd [1, -1] n2 ++ (fs ++ (kd [1, 0, 1] n3 ++ kd [1, -2, 3] n4))) := dist_app (kd_dist cop_q_d) dG fun p hp q hq => by
    rw [(kd_mem hp).1]
    rcases List.mem_append.mp hq with hq | hq
    · exact (cop_root_oth (hroot q hq) .q).symm
    · rcases memW hq with e | e <;> rw [e]
      · exact cop_q_r
      · exact cop_q_s
  have dA : Dist (ends n1 n2 (fs ++ (kd [1, 0, 1] n3 ++ kd [1, -2, 3] n4))) := dist_app (kd_dist cop_p_d) dQ fun p hp q hq => by
    rw [(kd_mem hp).1]
    rcases List.mem_append.mp hq with hq | hq
    · rw [(kd_mem hq).1]
      exact cop_p_q
    rcases List.mem_append.mp hq with hq | hq
    · exact (cop_root_oth (hroot q hq) .p).symm
    · rcases memW hq with e | e <;> rw [e]
      · exact cop_p_r
      · exact cop_p_s
  have eF : ∀ x, Ff (ends n1 n2 (fs ++ (kd [1, 0, 1] n3 ++ kd [1, -2, 3] n4))) x = Ff fs x * prodE os x := fun x => by
    unfold ends
    rw [Ff_app, Ff_app, Ff_app, Ff_app, kd_Ff, kd_Ff, kd_Ff, kd_Ff, evQ_p, evQ_q, evQ_r, evQ_s, eo]
    grind
  have hfac : ∀ p ∈ ends n1 n2 (fs ++ (kd [1, 0, 1] n3 ++ kd [1, -2, 3] n4)), FacB p.1 := fun p hp => by
    rcases List.mem_append.mp hp with hp | hp
    · rw [(kd_mem hp).1]; exact othFac_b .p
    rcases List.mem_append.mp hp with hp | hp
    · rw [(kd_mem hp).1]; exact othFac_b .q
    rcases List.mem_append.mp hp with hp | hp
    · exact rootFac_b (hroot p hp)
    rcases memW hp with e | e <;> rw [e]
    · exact othFac_b .r
    · exact othFac_b .s
  have k1 := kd_len [0, 1] n1
  have k2 := kd_len [1, -1] n2
  have k3 := kd_len [1, 0, 1] n3
  have k4 := kd_len [1, -2, 3] n4
  have few := hfs.few
  have hrep : (reps (ends n1 n2 (fs ++ (kd [1, 0, 1] n3 ++ kd [1, -2, 3] n4)))).length ≤ 10 := by
    unfold ends
    rw [reps_app, reps_app, reps_app, reps_app]
    simp only [List.length_append]
    omega
  have hlen : (ends n1 n2 (fs ++ (kd [1, 0, 1] n3 ++ kd [1, -2, 3] n4))).length ≤ 5 := by
    unfold ends
    simp only [List.length_append]
    omega
  have ePg : ∀ x, Pf (fs ++ (kd [1, 0, 1] n3 ++ kd [1, -2, 3] n4)) x = Pf (kd [1, 0, 1] n3 ++ kd [1, -2, 3] n4) x * prodR (fns fs) x := fun x => by
    rw [Pf_app, Pf_fns]
    grind
  have hW : ∀ x, 0 < Pf (kd [1, 0, 1] n3 ++ kd [1, -2, 3] n4) x := fun x => by
    rw [Pf_app, kd_Pf, kd_Pf, evQ_r, evQ_s]
    have a := sqn x
    have b := sqn (3 * x - 1)
    refine Rat.mul_pos ?_ ?_
    · split <;> grind
    · split <;> grind
  have hends : ∀ g ∈ fns fs, g 0 < 0 ∧ 0 < g 1 := fun g hg => by
    obtain ⟨p, hp, rfl⟩ := List.mem_map.mp hg
    exact ends_root (hroot p hp)
  have hinc : ∀ g ∈ fns fs, Inc g := fun g hg => by
    obtain ⟨p, hp, rfl⟩ := List.mem_map.mp hg
    exact inc_root (hroot p hp)
  have n0 : Non fs 0 := fun p hp => by have := (ends_root (hroot p hp)).1; grind
  have n1' : Non fs 1 := fun p hp => by have := (ends_root (hroot p hp)).2; grind
  have nz : ∀ {x}, Non fs x → Pf (fs ++ (kd [1, 0, 1] n3 ++ kd [1, -2, 3] n4)) x ≠ 0 := fun {x} h z => by
    rw [ePg] at z
    rcases Rat.mul_eq_zero.mp z with z | z
    · have := hW x; grind
    · exact prodR_non h z
  obtain ⟨f, k, sz, hk, nf, f0, lf, bf, ef⟩ := sz_ex (gs := fs ++ (kd [1, 0, 1] n3 ++ kd [1, -2, 3] n4)) hc0 (fun x => by rw [hF, eF]) dA nF h0 hl hb hfac hrep hlen (nz n0) (nz n1')
  have R : Roots f fs (fs ++ (kd [1, 0, 1] n3 ++ kd [1, -2, 3] n4)) (Pf (kd [1, 0, 1] n3 ++ kd [1, -2, 3] n4)) k := ⟨nf, f0, lf, bf, hk, dG, ef, ePg, pf_Pf _, fun x _ _ => hW x, hinc, d2, hends⟩
  obtain ⟨cs, hcs, hin, hneg⟩ := cuts_ok R (fs_apart hfs) hs
  have sg : ∀ x, sgnAt F x = s * (sgR (Ff fs x) * sgR (prodE os x)) := fun x => by rw [sgnAt_ev, hF, sgR_mul, sgR_mul, hc]
  refine ⟨f, cs, sz, hcs, hin, fun h => ?_, fun h1 h2 x hx => ?_⟩
  · obtain ⟨x, hx, hnon, hlt⟩ := hneg h
    obtain ⟨x0, x1, _⟩ := hin x hx
    refine ⟨x, hx, ?_⟩
    rw [sg, sgR_pos (oth_pos x0 x1 hos), Ff_sg (fun p hp => (hfs.fac p hp).2) hnon, Int.mul_one]
    exact hlt
  · obtain ⟨x0, x1, _⟩ := hin x hx
    rw [sg, sgR_pos (oth_pos x0 x1 hos), h1]
    have := Ff_even (x := x) h2
    rcases sgR_cases (Ff fs x) with y | y | y
    · rw [y.2]; decide
    · grind
    · rw [y.2]; decide
/-! ### whole numbers of ratios -/
theorem stp_dvd {s : Int} {q : Rat} (hs : 0 < s) : s ∣ stp s q ∧ ((q.den : Nat) : Int) ∣ stp s q ∧ 0 < stp s q ∧ stp s q ≤ s * (q.den : Int) := by
  have hd := q.den_pos
  have hg : (0 : Int) < ((Int.gcd s (q.den : Int) : Nat) : Int) := by
    have := Int.gcd_pos_of_ne_zero_left (q.den : Int) (show s ≠ 0 by omega)
    omega
  obtain ⟨a, ha⟩ := Int.gcd_dvd_left s (q.den : Int)
  obtain ⟨b, hb⟩ := Int.gcd_dvd_right s (q.den : Int)
  unfold stp
  generalize hgg : ((Int.gcd s (q.den : Int) : Nat) : Int) = g at *
  have e : s / g = a := by
    rw [ha]
    exact Int.mul_ediv_cancel_left a (by omega)
  have a0 : 0 < a := Decidable.byContradiction fun h => by
    have := Int.mul_le_mul_of_nonneg_left (show a ≤ 0 by omega) (Int.le_of_lt hg)
    omega
  rw [e]
  refine ⟨⟨b, ?_⟩, ⟨a, Int.mul_comm _ _⟩, Int.mul_pos a0 (by omega), ?_⟩
  · rw [hb]
    conv => rhs; rw [ha]
    grind
  · refine Int.mul_le_mul_of_nonneg_right ?_ (by omega)
    rw [ha]
    have := Int.mul_le_mul_of_nonneg_right (show 1 ≤ g by omega) (Int.le_of_lt a0)
    omega
end Kq

set_option Elab.async false
set_option linter.all false
set_option maxRecDepth 100000
set_option maxHeartbeats 1000000
/-! the plain law -/
namespace Kq
theorem fold_stp : ∀ (qs : List Rat) (s : Int), 0 < s → 0 < qs.foldl stp s ∧ s ∣ qs.foldl stp s ∧ ∀ q ∈ qs, ((q.den : Nat) : Int) ∣ qs.foldl stp s
  | [], s, h => ⟨h, Int.dvd_refl _, fun q hq => by cases hq⟩
  | q :: qs, s, h => by
    obtain ⟨h1, h2, h3, _⟩ := stp_dvd (q := q) h
    obtain ⟨i1, i2, i3⟩ := fold_stp qs (stp s q) h3
    refine ⟨i1, Int.dvd_trans h1 i2, fun r hr => ?_⟩
    rcases List.mem_cons.mp hr with rfl | hr
    · exact Int.dvd_trans h2 i2
    · exact i3 r hr
theorem fold_bd {n : Nat} : ∀ (qs : List Rat) (s : Int) (a : Nat), 0 < s → s.natAbs < 2 ^ a → (∀ q ∈ qs, q.den < 2 ^ n) → (qs.foldl stp s).natAbs < 2 ^ (a + n * qs.length)
  | [], s, a, _, h, _ => h
  | q :: qs, s, a, h0, h, hq => by
    obtain ⟨h1, h2, h3, h4⟩ := stp_dvd (q := q) h0
    have h5 : (stp s q).natAbs < 2 ^ (a + n) := by
      have h6 := lt_pow_add (x := s) (y := (q.den : Int)) h (by rw [Int.natAbs_natCast]; exact hq q List.mem_cons_self)
      omega
    have h7 := fold_bd qs (stp s q) (a + n) h3 h5 fun r hr => hq r (List.mem_cons_of_mem _ hr)
    have e : a + n * (q :: qs).length = a + n + n * qs.length := by rw [List.length_cons, Nat.mul_succ]; omega
    rw [e]
    exact h7
theorem whole_ev (x : Rat) (S : Int) : ∀ qs : List Rat, (∀ q ∈ qs, ((q.den : Nat) : Int) ∣ S) → evI (qs.map fun q => q.num * (S / (q.den : Int))) x = (S : Rat) * evQ qs x
  | [], _ => by show (0 : Rat) = (S : Rat) * 0; grind
  | q :: qs, h => by
    rw [List.map_cons, evI_cons, whole_ev x S qs fun r hr => h r (List.mem_cons_of_mem _ hr), evQ_cons, Rat.intCast_mul]
    obtain ⟨w, hw⟩ := h q List.mem_cons_self
    have hd := q.den_pos
    have e : S / (q.den : Int) = w := by
      rw [hw]
      exact Int.mul_ediv_cancel_left w (by omega)
    have e2 : (S : Rat) = ((q.den : Int) : Rat) * (w : Rat) := by rw [← Rat.intCast_mul, ← hw]
    have e3 := num_den q
    rw [e, e2, ← e3]
    grind
theorem wholes_ev (qs : List Rat) (x : Rat) : evI (wholes qs) x = (scaleOf qs : Rat) * evQ qs x := whole_ev x _ qs (fold_stp qs 1 (by decide)).2.2
theorem scale_pos (qs : List Rat) : (0 : Rat) < (scaleOf qs : Rat) := Rat.intCast_pos.mpr (fold_stp qs 1 (by decide)).1
theorem evQ_pad (x : Rat) (n : Nat) : ∀ l : List Rat, evQ (l ++ List.replicate n 0) x = evQ l x
  | [] => evQ_zeros x n
  | c :: l => by rw [List.cons_append, evQ_cons, evQ_pad x n l, evQ_cons]
theorem evQ_padded (x : Rat) (l : List Rat) (n : Nat) : evQ (padded l n) x = evQ l x := evQ_pad x _ l
theorem pad_len {l : List Rat} {n : Nat} (h : l.length ≤ n) : (padded l n).length = n := by
  unfold padded
  rw [List.length_append, List.length_replicate]
  omega
theorem evQ_zip_sub (x : Rat) : ∀ (l m : List Rat), l.length = m.length → evQ (l.zipWith (· - ·) m) x = evQ l x - evQ m x
  | [], [], _ => by show (0 : Rat) = 0 - 0; grind
  | a :: l, b :: m, h => by
    rw [List.zipWith_cons_cons, evQ_cons, evQ_zip_sub x l m (by simpa using h), evQ_cons, evQ_cons]
    grind
theorem evQ_zip_add (x : Rat) : ∀ (l m : List Rat), l.length = m.length → evQ (l.zipWith (· + ·) m) x = evQ l x + evQ m x
  | [], [], _ => by show (0 : Rat) = 0 + 0; grind
  | a :: l, b :: m, h => by
    rw [List.zipWith_cons_cons, evQ_cons, evQ_zip_add x l m (by simpa using h), evQ_cons, evQ_cons]
    grind
theorem gaps_ev (ps rs : List Rat) (x : Rat) : evQ (gaps ps rs) x = evQ ps x - evQ rs x := by
  unfold gaps
  rw [evQ_zip_sub x _ _ (by rw [pad_len (by omega), pad_len (by omega)]), evQ_padded, evQ_padded]
theorem addQ_ev (ps rs : List Rat) (x : Rat) : evQ (addQ ps rs) x = evQ ps x + evQ rs x := by
  unfold addQ
  rw [evQ_trimQ, evQ_zip_add x _ _ (by rw [pad_len (by omega), pad_len (by omega)]), evQ_padded, evQ_padded]
theorem mulN_ev (x : Rat) (r f : List Rat) : ∀ n, evQ (mulN r f n) x = evQ r x * pwr (evQ f x) n
  | 0 => by show evQ r x = evQ r x * 1; grind
  | n + 1 => by
    show evQ (mulQ (mulN r f n) f) x = _
    rw [evQ_mulQ, mulN_ev x r f n, pwr_succ]
    grind
theorem rowFs_ev (x : Rat) : ∀ (fs : List Fac) (r : List Rat), evQ (rowFs r fs) x = evQ r x * Ff fs x
  | [], r => by show evQ r x = evQ r x * 1; grind
  | p :: fs, r => by
    show evQ (rowFs (mulN r p.1 p.2) fs) x = evQ r x * (pwr (evQ p.1 x) p.2 * Ff fs x)
    rw [rowFs_ev x fs, mulN_ev]
    grind
theorem rowOs_ev (x : Rat) : ∀ (os : List (List Rat)) (r : List Rat), evQ (rowOs r os) x = evQ r x * prodE os x
  | [], r => by show evQ r x = evQ r x * 1; grind
  | o :: os, r => by
    show evQ (rowOs (mulQ r o) os) x = evQ r x * (evQ o x * prodE os x)
    rw [rowOs_ev x os, evQ_mulQ]
    grind
theorem Plan.ev {row : List Rat} {s c : Int} {fs : List Fac} {os : List (List Rat)} (h : Plan row s c fs os) (x : Rat) : evQ row x = Rat.divInt s c * (Ff fs x * prodE os x) := by
  rw [h.row_eq, rowOs_ev, rowFs_ev, evQ_cons, evQ_nil]
  grind
theorem Plan.sg {row : List Rat} {s c : Int} {fs : List Fac} {os : List (List Rat)} (h : Plan row s c fs os) : sgR (Rat.divInt s c) = s := by
  have hc : (0 : Rat) < (c : Rat) := Rat.intCast_pos.mpr (by have := h.c0; omega)
  have hi := Rat.inv_pos.mpr hc
  rw [Rat.divInt_eq_div, Rat.div_def, sgR_mul, sgR_pos hi, sgR_int, Int.mul_one]
  rcases h.sign with e | e <;> rw [e] <;> rfl
theorem crossed_nil {fs : List Fac} : crossedOf fs = [] ↔ ∀ p ∈ fs, p.2 = 2 := by
  unfold crossedOf
  rw [List.map_eq_nil_iff, List.filter_eq_nil_iff]
  simp
theorem root_two {f : List Rat} (h : RootFac f) : 0 < evQ f 2 := by
  cases h with
  | lin r h0 h1 hd =>
    show 0 < evQ (linF r) 2
    rw [evQ_lin]
    exact Rat.mul_pos (den0 r) (by grind)
  | a => rw [evQ_a]; grind
  | b => rw [evQ_b]; grind
  | c => rw [evQ_c]; grind
/-- somewhere it is not zero -/
theorem at_two {fs : List Fac} {os : List (List Rat)} (hfs : FsOk fs) (hos : ∀ o ∈ os, OthFac o) : Ff fs 2 * prodE os 2 ≠ 0 := by
  have h1 : 0 < Ff fs 2 := by
    have : ∀ fs : List Fac, (∀ p ∈ fs, RootFac p.1) → 0 < Ff fs 2 := by
      intro fs
      induction fs with
      | nil => intro _; show (0 : Rat) < 1; decide
      | cons p fs ih =>
        intro h
        refine Rat.mul_pos (pwr_pos ?_ _) (ih fun q hq => h q (List.mem_cons_of_mem _ hq))
        exact root_two (h p List.mem_cons_self)
    exact this fs fun p hp => (hfs.fac p hp).1
  have h2 : prodE os 2 ≠ 0 := by
    clear h1
    induction os with
    | nil => show (1 : Rat) ≠ 0; decide
    | cons o os ih =>
      intro z
      rcases Rat.mul_eq_zero.mp (show evQ o 2 * prodE os 2 = 0 from z) with z | z
      · cases hos o List.mem_cons_self with
        | p => rw [evQ_p] at z; grind
        | q => rw [evQ_q] at z; grind
        | r => rw [evQ_r] at z; grind
        | s => rw [evQ_s] at z; grind
      · exact ih (fun p hp => hos p (List.mem_cons_of_mem _ hp)) z
  intro z
  rcases Rat.mul_eq_zero.mp z with z | z
  · grind
  · exact h2 z
theorem first_some {F : List Int} : ∀ {cs : List Rat}, (∃ x ∈ cs, sgnAt F x < 0) → ∃ p, firstBelow F cs = some p ∧ p ∈ cs ∧ sgnAt F p < 0
  | [], h => by
    obtain ⟨x, hx, _⟩ := h
    cases hx
  | c :: cs, h => by
    by_cases hc : sgnAt F c < 0
    · exact ⟨c, if_pos hc, List.mem_cons_self, hc⟩
    · obtain ⟨x, hx, hs⟩ := h
      rcases List.mem_cons.mp hx with rfl | hx
      · exact absurd hs hc
      · obtain ⟨p, h1, h2, h3⟩ := first_some ⟨x, hx, hs⟩
        exact ⟨p, (if_neg hc).trans h1, List.mem_cons_of_mem _ h2, h3⟩
theorem first_none {F : List Int} : ∀ {cs : List Rat}, (∀ x ∈ cs, ¬ sgnAt F x < 0) → firstBelow F cs = none
  | [], _ => rfl
  | c :: cs, h => (if_neg (h c List.mem_cons_self)).trans (first_none fun x hx => h x (List.mem_cons_of_mem _ hx))
theorem qb_neg {n : Nat} {q : Rat} (h : QB n q) : QB n (-q) := by
  unfold QB at *
  rw [Rat.neg_num, Rat.neg_den, Int.natAbs_neg]
  exact h
theorem gaps_qb {n m j : Nat} {ps rs : List Rat} (h : ∀ q ∈ ps, QB n q) (k : ∀ q ∈ rs, QB m q) (hn : 0 < n) (hm : 0 < m) (hj : n + m + 1 ≤ j) : ∀ q ∈ gaps ps rs, QB j q := fun q hq => by
  have hp : ∀ {l : List Rat} {n t : Nat}, (∀ q ∈ l, QB n q) → 0 < n → ∀ q ∈ padded l t, QB n q := fun h hn q hq => by
    rcases List.mem_append.mp hq with hq | hq
    · exact h q hq
    · rw [List.eq_of_mem_replicate hq]
      exact qb_zero hn
  unfold gaps at hq
  obtain ⟨i, hi, e⟩ := List.mem_iff_getElem.mp hq
  rw [List.getElem_zipWith] at e
  rw [← e, Rat.sub_eq_add_neg]
  exact qb_more (qb_add (hp h hn _ (List.getElem_mem _)) (qb_neg (hp k hm _ (List.getElem_mem _)))) hj
/-- all of NW but the answer -/
theorem nw_of {ps rs : List Rat} {out : Option Rat} (lp : ps.length ≤ 20) (lr : rs.length ≤ 20) (h : ∀ q ∈ ps, QB 500 q) (k : ∀ q ∈ rs, QB 500 q) (nb : NB (gaps ps rs) out) : NW ps rs out := by
  have hg := gaps_qb h k (by decide) (by decide) (show 500 + 500 + 1 ≤ 1001 by decide)
  have lg : (gaps ps rs).length ≤ 20 := by
    unfold gaps
    rw [List.length_zipWith, pad_len (by omega), pad_len (by omega)]
    omega
  refine ⟨by omega, by omega, fun q hq => ⟨(h q hq).sn (by decide), (h q hq).sd (by decide)⟩, fun q hq => ⟨(k q hq).sn (by decide), (k q hq).sd (by decide)⟩, fun q hq => ⟨(hg q hq).sn (by decide), (hg q hq).sd (by decide)⟩, fun i => ⟨(fold_stp _ 1 (by decide)).1, ?_⟩, nb⟩
  have h1 := fold_bd (n := 1001) ((gaps ps rs).take i) 1 1 (by decide) (by decide) fun q hq => (hg q (List.mem_of_mem_take hq)).2
  refine sm_of h1 ?_
  have h2 : ((gaps ps rs).take i).length ≤ 20 := by
    rw [List.length_take]
    omega
  have h3 : 1001 * ((gaps ps rs).take i).length ≤ 1001 * 20 := Nat.mul_le_mul_left _ h2
  omega
end Kq

set_option Elab.async false
set_option linter.all false
set_option maxRecDepth 100000
set_option maxHeartbeats 1000000
/-! the plain law -/
namespace Kq
theorem nb_ok {fs : List Fac} {os : List (List Rat)} (hfs : FsOk fs) (hos : ∀ o ∈ os, OthFac o) (h2 : os.length ≤ 2) {row qs : List Rat} {c : Rat} {s : Int} (hs : s = 1 ∨ s = -1) (hc : sgR c = s)
    (hrow : ∀ x, evQ row x = c * (Ff fs x * prodE os x)) (hb : RowB 11 row) (hl : row.length ≤ 13) (hq : ∀ x, evQ qs x = evQ row x) : ∃ out, NB qs out ∧ Right row (decide (crossedOf fs = [] ∧ s = 1)) out := by
  obtain ⟨D, M, hD, hR, hd, hm⟩ := hb
  obtain ⟨k, hk, ek⟩ := evI_trim (wholes qs)
  have hsc := scale_pos qs
  have nF := trim_norm (wholes qs)
  have eF : ∀ x, evI (trim (wholes qs)) x = scaleOf qs / k * evQ row x := fun x => by
    have h1 := ek x
    rw [wholes_ev, hq] at h1
    grind
  have hkk : (0 : Rat) < scaleOf qs / k := by
    rw [Rat.div_def]
    exact Rat.mul_pos hsc (Rat.inv_pos.mpr hk)
  generalize (scaleOf qs : Rat) / k = w at eF hkk
  obtain ⟨p1, p2⟩ := prim_bd nF hD hR eF
  generalize hFF : trim (wholes qs) = F at *
  have bF : Bd F 386 := fun x hx => Nat.lt_of_le_of_lt (Nat.le_trans (p1 x hx) hm) (Nat.pow_lt_pow_right (by decide) (by decide))
  have hc0 : c ≠ 0 := fun z => by rw [z, sgR_zero] at hc; omega
  have F0 : F ≠ [] := fun z => by
    have h1 := eF 2
    rw [z, evI_nil, hrow] at h1
    have h3 := at_two hfs hos
    have h4 : w * c * (Ff fs 2 * prodE os 2) = 0 := by grind
    rcases Rat.mul_eq_zero.mp h4 with y | y
    · rcases Rat.mul_eq_zero.mp y with y | y
      · grind
      · exact hc0 y
    · exact h3 y
  have hcw : sgR (w * c) = s := by rw [sgR_mul, sgR_pos hkk, hc, Int.one_mul]
  obtain ⟨f, cs, sz, hcs, hin, hneg, hpos⟩ := poly_ok hfs hos h2 hs hcw (fun x => by rw [eF, hrow]; grind) nF F0 (by omega) bF
  have bF2 : Bd F 56300000 := bF.mono (by decide)
  refine ⟨firstBelow F cs, .inr ⟨by rw [hFF]; exact F0, f, cs, by rw [hFF]; exact sz, hcs, fun p hp => by rw [hFF]; exact at_ok (by omega) bF2 (hin p hp).2.2, by rw [hFF]⟩, ?_⟩
  by_cases hdue : crossedOf fs = [] ∧ s = 1
  · exact .inl ⟨decide_eq_true hdue, first_none (hpos hdue.2 (crossed_nil.mp hdue.1))⟩
  · refine .inr ⟨decide_eq_false hdue, ?_⟩
    have hneg2 : s = -1 ∨ ∃ p ∈ fs, p.2 ≠ 2 := by
      refine Classical.byContradiction fun hno => hdue ⟨crossed_nil.mpr fun p hp => Decidable.byContradiction fun h => hno (.inr ⟨p, hp, h⟩), ?_⟩
      rcases hs with h | h
      · exact h
      · exact absurd (.inl h) hno
    obtain ⟨p, e1, e2, e3⟩ := first_some (hneg hneg2)
    obtain ⟨x0, x1, xq⟩ := hin p e2
    have c1 : (9 * 2 ^ 11 : Nat) < 2 ^ 1000 := Nat.lt_trans (show 9 * 2 ^ 11 < 2 ^ 20 by decide) (Nat.pow_lt_pow_right (by decide) (by decide))
    have c2 : (2 : Nat) ^ (35 * 11) < 2 ^ 1000 := Nat.pow_lt_pow_right (by decide) (by decide)
    have hln : row.length * (724 + 1) ≤ 13 * (724 + 1) := Nat.mul_le_mul_right _ hl
    refine ⟨p, e1, x0, x1, qb_more xq (by decide), ⟨by omega, D, M, 724, hD, hR, Nat.lt_of_le_of_lt hd c1, Nat.lt_of_le_of_lt hm c2, xq.1, xq.2, by decide, by omega, by decide⟩, ?_⟩
    rw [sgnAt_ev, eF, sgR_mul, sgR_pos hkk, Int.one_mul] at e3
    rcases sgR_cases (evQ row p) with y | y | y
    · omega
    · exact y.1
    · omega
theorem evQ_negL (x : Rat) : ∀ l : List Rat, evQ (l.map fun q => -q) x = -evQ l x
  | [] => by show (0 : Rat) = -0; grind
  | c :: l => by
    rw [List.map_cons, evQ_cons, evQ_negL x l, evQ_cons]
    grind
theorem rowB_neg {j : Nat} {row : List Rat} (h : RowB j row) : RowB j (row.map fun q => -q) := by
  obtain ⟨D, M, hD, hR, hd, hm⟩ := h
  refine ⟨D, M, hD, fun q hq => ?_, hd, hm⟩
  obtain ⟨r, hr, rfl⟩ := List.mem_map.mp hq
  obtain ⟨z, e, b⟩ := hR r hr
  refine ⟨-z, ?_, by rw [Int.natAbs_neg]; exact b⟩
  rw [e, Rat.intCast_neg]
  grind
theorem nb_zero {qs : List Rat} (h : ∀ x, evQ qs x = 0) : NB qs none := by
  refine .inl ⟨?_, rfl⟩
  have h1 : ∀ c ∈ wholes qs, c = 0 := evI_zero (N := 0) fun x _ => by rw [wholes_ev, h]; grind
  refine Classical.byContradiction fun hne => ?_
  have hc : cut (wholes qs) ≠ [] := fun z => hne (by unfold trim; rw [z]; rfl)
  exact cut_lastI hc (h1 _ (List.mem_of_mem_take (lastI_mem hc)))
theorem laps : Laps := fun row s co fs os bs z hplan hrb hrl hbl hbq hz => by
  have hfs : FsOk fs := ⟨hplan.few, hplan.fac, hplan.nd⟩
  have hrow : ∀ q ∈ row, QB 400 q := by
    obtain ⟨D, M, hD, hR, hd, hm⟩ := hrb
    exact fun q hq => (hR q hq).qb hD (Nat.lt_of_le_of_lt hd (Nat.lt_trans (show 9 * 2 ^ 11 < 2 ^ 20 by decide) (Nat.pow_lt_pow_right (by decide) (by decide)))) (Nat.lt_of_le_of_lt hm (Nat.pow_lt_pow_right (by decide) (by decide)))
  have hone : ∀ q ∈ addQ bs row ++ List.replicate z 0, QB 500 q := fun q hq => by
    rcases List.mem_append.mp hq with hq | hq
    · exact addQ_qb hbq hrow (by decide) (by decide) (by decide) q hq
    · rw [List.eq_of_mem_replicate hq]
      exact qb_zero (by decide)
  have lone : (addQ bs row ++ List.replicate z 0).length ≤ 20 := by
    rw [List.length_append, List.length_replicate]
    have : (addQ bs row).length ≤ 13 := by
      refine Nat.le_trans (trimQ_len _) ?_
      rw [List.length_zipWith, pad_len (by omega), pad_len (by omega)]
      omega
    omega
  have hbs : ∀ q ∈ bs, QB 500 q := fun q hq => qb_more (hbq q hq) (by decide)
  have eone : ∀ x, evQ (addQ bs row ++ List.replicate z 0) x = evQ bs x + evQ row x := fun x => by rw [evQ_pad, addQ_ev]
  obtain ⟨o1, b1, r1⟩ := nb_ok hfs hplan.oth hplan.two hplan.sign hplan.sg hplan.ev hrb hrl (qs := gaps (addQ bs row ++ List.replicate z 0) bs) fun x => by rw [gaps_ev, eone]; grind
  have hs2 : -s = 1 ∨ -s = -1 := by have := hplan.sign; omega
  have hsg : sgR (-(Rat.divInt s co)) = -s := by
    have h1 : -(Rat.divInt s co) = -1 * Rat.divInt s co := by grind
    rw [h1, sgR_mul, hplan.sg, sgR_neg (by grind)]
    omega
  obtain ⟨o3, b3, r3⟩ := nb_ok hfs hplan.oth hplan.two hs2 hsg (row := row.map fun q => -q) (fun x => by rw [evQ_negL, hplan.ev]; grind) (rowB_neg hrb) (by rw [List.length_map]; exact hrl) (qs := gaps bs (addQ bs row ++ List.replicate z 0)) fun x => by rw [gaps_ev, eone, evQ_negL]; grind
  have e3 : decide (crossedOf fs = [] ∧ -s = 1) = decide (crossedOf fs = [] ∧ s = -1) := decide_eq_decide.mpr ⟨fun h => ⟨h.1, by omega⟩, fun h => ⟨h.1, by omega⟩⟩
  rw [e3] at r3
  refine ⟨o1, o3, nw_of lone (by omega) hone hbs b1, r1, nw_of (by omega) (by rw [List.length_append]; show _ + 2 ≤ _; omega) hbs (fun q hq => ?_) (nb_zero fun x => ?_), nw_of (by omega) lone hbs hone b3, r3⟩
  · rcases List.mem_append.mp hq with hq | hq
    · exact hbs q hq
    · have : q = 0 := by simpa using hq
      rw [this]
      exact qb_zero (by decide)
  · rw [gaps_ev, show bs ++ [0, 0] = bs ++ List.replicate 2 0 from rfl, evQ_pad]
    grind
end Kq

set_option Elab.async false
set_option linter.all false
set_option maxRecDepth 100000
set_option maxHeartbeats 4000000
namespace Kq
open PySem PySem.Spec PyProof.Rows L2
theorem def_mk {K K' : PySem.W.Frag} (l : KLe K K') {h : Heap} {mg : Str → Option Value} (X : K.In h) (G : h.Ns mainGlobals mg) {x : Str} {st : Stmt} {ps : List Str} {f : Addr} {oc : Value} {od an : Option Addr} {osl : Array (Option Value)} {kV doc pm cdv ct : Value}
    (a : PySem.W.nsIn K mainGlobals x = some (some (.ref f))) (lk : K.lookup f = some ⟨oc, od, .func (PySem.W.fnOf x x (defArgs st) (defBody st) (defScope st) .none kV doc pm an cdv ct), osl⟩) (c : PySem.W.codeIn K cdv x = true)
    (hb : ∀ (kV doc pm : Value) (an : Option Addr) (cdv ct : Value) (us : List Value), us.length = ps.length → bindArgs (PySem.W.fnOf x x (defArgs st) (defBody st) (defScope st) .none kV doc pm an cdv ct) ⟨us, []⟩ = pure (ps.zip us)) :
    DefAt K' mg x st ps := by
  have F : Fun K' x x st f _ := fun_mk (st := st) (l _ _ lk) (l.code c) (keep_le l lk)
  exact ⟨f, _, F, PySem.W.mg_of X G a, F.binds hb⟩
theorem none_mk {K K' : PySem.W.Frag} (l : KLe K K') {h : Heap} {mg : Str → Option Value} (X : K.In h) (G : h.Ns mainGlobals mg) {x : Str} {p : Addr} {o : Obj} {n : Nat} {t1 t2 : Tok}
    (a : PySem.W.nsIn K mainGlobals x = some (some (.ref p))) (lk : K.lookup p = some o) (c : o.cls = .type "tuple") (d : o.data = .seq #[.int 0 t1, .int 1 t2] n) : ∃ p, mg x = some (.ref p) ∧ ∀ H, SqT K' H p [.int 0, .int 1] :=
  ⟨p, PySem.W.mg_of X G a, fun H => .inr ⟨o, _, n, l _ _ lk, c, d, by show 2 ≤ sizeLine; decide, .cons ⟨_, rfl⟩ (.cons ⟨_, rfl⟩ .nil)⟩⟩
theorem walk_ofS {l : PySem.W.OpenLaw} {k : Nat} {q : Program} {loose : List Str} {XP : (Str → Option Value) → Heap → Prop} {YP : World → Heap → Prop} {d : DefRec} {K : Params → PySem.W.Frag}
    (hn : l.most = some 63) (hdf : d.params.defaults = []) (hr : Room k callerA) (hnm : d.name = "law")
    (hY : ∀ (w : World) (h : Heap), YP w h → (K w.params).In h) (hi : importsNone q = true)
    (T : ∀ (w : World) (K' : PySem.W.Frag) (mg : Str → Option Value) (h : Heap), KLe (K w.params) K' → (K w.params).In h → h.Ns mainGlobals mg → Txt K' mg)
    (L : ∀ (w : World) (K : PySem.W.Frag) (mg : Str → Option Value) (base : Heap) (f : Addr) (fd : FuncData), Txt K mg → base.NoSeer → Fun K "law" "law" s_law f fd → FnOk l.prog w K mg base CX0 k f fd ["_law_script"] (spLaw K)) :
    PySem.W.WalkO q loose XP YP l.row.toRowW d [] (fun f vs => PySem.call f vs) := by
  refine Att.attach_call hn hdf fun w s₀ s₁ mg mb fa o pm cd doc a vs ns G Y ho hd hcd hmg hobj hints hlen hg => ?_
  obtain ⟨K', hle, KX, hB⟩ := seer_frag (hY w _ Y) (G.T.seer hi)
  have hT := T w K' mg _ hle (hY w _ Y) G.T.g
  rw [hnm] at hmg
  obtain ⟨f, fd, F, hmf, _⟩ := hT.d_law
  have hff : f = fa := by
    have e := hmf.symm.trans hmg
    cases e
    rfl
  subst hff
  have hbd : ∀ (s : Shared) (u : Value), BindsTo s fd ⟨[u], []⟩ [("_law_script", u)] := fun s u => by
    obtain ⟨oc, od, kV, doc', pm', an, cdv, ct, osl, rfl, lk, hcd'⟩ := F.ex
    exact .of_eq rfl
  exact law_call (CX := CX0) (k := k) (sp := spLaw K') (x := "_law_script") KX G.T.g G.T.b G.T.builtins G.T.nolimit hg hobj hints (Nat.le_trans hlen (by decide)) hr (fun base hK hN => L w K' mg base f fd hT (hB base hK) F) hbd (fun H hO hS => ⟨a, ns, rfl, hS, hlen, fun _ => rfl⟩) (fun _ _ _ h => h)
end Kq
open PySem PySem.W PyProof.Rows
set_option maxHeartbeats 0 in
theorem PySem.Challenge.cw_keptqubits_k42_whole_polynomials_never_w_holds : PySem.Challenge.rw_keptqubits_k42_whole_polynomials_never_w.Holds := by
  w_on; o_law; k_head; (case hw => w_witness2)
  k_fill
  refine Kq.walk_ofS (l := PySem.Challenge.rw_keptqubits_k42_whole_polynomials_never_w) (k := 41) rfl rfl ⟨rfl, by decide, by decide⟩ rfl (fun w h Y => PySem.W.kIn_of Y) (by decide +kernel) (fun w K' mg h l KX G => ?T) (fun w K mg base f fd T hs F => Kq.law_ok T ⟨hs, rfl⟩ Kq.laps F)
  refine ⟨?d_is_whole, ?d_is_ratio, ?d_common, ?d_lowest, ?d_ratio_of, ?d_ratio_gap, ?d_trimmed, ?d_whole_numbers, ?d_slope_of, ?d_shared, ?d_divisor_of_rows, ?d_single_zeros, ?d_signs_at, ?d_remainders, ?d_changes, ?d_cut_between, ?d_cuts_of, ?d_never_below, ?d_gap_sums, ?d_told_polynomial, ?d_never_worse, ?d_L_pen, ?d_L_draw, ?d_L_pick, ?d_L_gcd, ?d_L_q, ?d_L_plus, ?d_L_by, ?d_L_less, ?d_L_is_whole, ?d_L_is_ratio, ?d_L_passed, ?d_L_trimmed, ?d_L_row_plus, ?d_L_row_times, ?d_L_row_at, ?d_L_root_factor, ?d_L_planted, ?d_L_answer_right, ?d_law, ?none0, ?b_isinstance, ?b_int, ?b_bool, ?b_tuple, ?b_len, ?b_abs, ?b_list, ?b_max, ?b_enumerate, ?b_sum, ?b_zip, ?b_range, ?b_all⟩
  case d_is_whole => refine' Kq.def_mk l KX G (st := Kq.s_is_whole) ?a ?lk ?c (fun _ _ _ _ _ _ us hl => match us, hl with | [_], _ => rfl); (case a => k_is); (case lk => k_is); (case c => k_is)
  case d_is_ratio => refine' Kq.def_mk l KX G (st := Kq.s_is_ratio) ?a ?lk ?c (fun _ _ _ _ _ _ us hl => match us, hl with | [_], _ => rfl); (case a => k_is); (case lk => k_is); (case c => k_is)
  case d_common => refine' Kq.def_mk l KX G (st := Kq.s_common) ?a ?lk ?c (fun _ _ _ _ _ _ us hl => match us, hl with | [_, _], _ => rfl); (case a => k_is); (case lk => k_is); (case c => k_is)
  case d_lowest => refine' Kq.def_mk l KX G (st := Kq.s_lowest) ?a ?lk ?c (fun _ _ _ _ _ _ us hl => match us, hl with | [_, _], _ => rfl); (case a => k_is); (case lk => k_is); (case c => k_is)
  case d_ratio_of => refine' Kq.def_mk l KX G (st := Kq.s_ratio_of) ?a ?lk ?c (fun _ _ _ _ _ _ us hl => match us, hl with | [_], _ => rfl); (case a => k_is); (case lk => k_is); (case c => k_is)
  case d_ratio_gap => refine' Kq.def_mk l KX G (st := Kq.s_ratio_gap) ?a ?lk ?c (fun _ _ _ _ _ _ us hl => match us, hl with | [_, _], _ => rfl); (case a => k_is); (case lk => k_is); (case c => k_is)
  case d_trimmed => refine' Kq.def_mk l KX G (st := Kq.s_trimmed) ?a ?lk ?c (fun _ _ _ _ _ _ us hl => match us, hl with | [_], _ => rfl); (case a => k_is); (case lk => k_is); (case c => k_is)
  case d_whole_numbers => refine' Kq.def_mk l KX G (st := Kq.s_whole_numbers) ?a ?lk ?c (fun _ _ _ _ _ _ us hl => match us, hl with | [_], _ => rfl); (case a => k_is); (case lk => k_is); (case c => k_is)
  case d_slope_of => refine' Kq.def_mk l KX G (st := Kq.s_slope_of) ?a ?lk ?c (fun _ _ _ _ _ _ us hl => match us, hl with | [_], _ => rfl); (case a => k_is); (case lk => k_is); (case c => k_is)
  case d_shared => refine' Kq.def_mk l KX G (st := Kq.s_shared) ?a ?lk ?c (fun _ _ _ _ _ _ us hl => match us, hl with | [_, _], _ => rfl); (case a => k_is); (case lk => k_is); (case c => k_is)
  case d_divisor_of_rows => refine' Kq.def_mk l KX G (st := Kq.s_divisor_of_rows) ?a ?lk ?c (fun _ _ _ _ _ _ us hl => match us, hl with | [_, _], _ => rfl); (case a => k_is); (case lk => k_is); (case c => k_is)
  case d_single_zeros => refine' Kq.def_mk l KX G (st := Kq.s_single_zeros) ?a ?lk ?c (fun _ _ _ _ _ _ us hl => match us, hl with | [_], _ => rfl); (case a => k_is); (case lk => k_is); (case c => k_is)
  case d_signs_at => refine' Kq.def_mk l KX G (st := Kq.s_signs_at) ?a ?lk ?c (fun _ _ _ _ _ _ us hl => match us, hl with | [_, _], _ => rfl); (case a => k_is); (case lk => k_is); (case c => k_is)
  case d_remainders => refine' Kq.def_mk l KX G (st := Kq.s_remainders) ?a ?lk ?c (fun _ _ _ _ _ _ us hl => match us, hl with | [_], _ => rfl); (case a => k_is); (case lk => k_is); (case c => k_is)
  case d_changes => refine' Kq.def_mk l KX G (st := Kq.s_changes) ?a ?lk ?c (fun _ _ _ _ _ _ us hl => match us, hl with | [_, _], _ => rfl); (case a => k_is); (case lk => k_is); (case c => k_is)
  case d_cut_between => refine' Kq.def_mk l KX G (st := Kq.s_cut_between) ?a ?lk ?c (fun _ _ _ _ _ _ us hl => match us, hl with | [_, _, _], _ => rfl); (case a => k_is); (case lk => k_is); (case c => k_is)
  case d_cuts_of => refine' Kq.def_mk l KX G (st := Kq.s_cuts_of) ?a ?lk ?c (fun _ _ _ _ _ _ us hl => match us, hl with | [_], _ => rfl); (case a => k_is); (case lk => k_is); (case c => k_is)
  case d_never_below => refine' Kq.def_mk l KX G (st := Kq.s_never_below) ?a ?lk ?c (fun _ _ _ _ _ _ us hl => match us, hl with | [_], _ => rfl); (case a => k_is); (case lk => k_is); (case c => k_is)
  case d_gap_sums => refine' Kq.def_mk l KX G (st := Kq.s_gap_sums) ?a ?lk ?c (fun _ _ _ _ _ _ us hl => match us, hl with | [_, _], _ => rfl); (case a => k_is); (case lk => k_is); (case c => k_is)
  case d_told_polynomial => refine' Kq.def_mk l KX G (st := Kq.s_told_polynomial) ?a ?lk ?c (fun _ _ _ _ _ _ us hl => match us, hl with | [_], _ => rfl); (case a => k_is); (case lk => k_is); (case c => k_is)
  case d_never_worse => refine' Kq.def_mk l KX G (st := Kq.s_never_worse) ?a ?lk ?c (fun _ _ _ _ _ _ us hl => match us, hl with | [_, _], _ => rfl); (case a => k_is); (case lk => k_is); (case c => k_is)
  case d_L_pen => refine' Kq.def_mk l KX G (st := Kq.s_L_pen) ?a ?lk ?c (fun _ _ _ _ _ _ us hl => match us, hl with | [_], _ => rfl); (case a => k_is); (case lk => k_is); (case c => k_is)
  case d_L_draw => refine' Kq.def_mk l KX G (st := Kq.s_L_draw) ?a ?lk ?c (fun _ _ _ _ _ _ us hl => match us, hl with | [_, _], _ => rfl); (case a => k_is); (case lk => k_is); (case c => k_is)
  case d_L_pick => refine' Kq.def_mk l KX G (st := Kq.s_L_pick) ?a ?lk ?c (fun _ _ _ _ _ _ us hl => match us, hl with | [_, _], _ => rfl); (case a => k_is); (case lk => k_is); (case c => k_is)
  case d_L_gcd => refine' Kq.def_mk l KX G (st := Kq.s_L_gcd) ?a ?lk ?c (fun _ _ _ _ _ _ us hl => match us, hl with | [_, _], _ => rfl); (case a => k_is); (case lk => k_is); (case c => k_is)
  case d_L_q => refine' Kq.def_mk l KX G (st := Kq.s_L_q) ?a ?lk ?c (fun _ _ _ _ _ _ us hl => match us, hl with | [_, _], _ => rfl); (case a => k_is); (case lk => k_is); (case c => k_is)
  case d_L_plus => refine' Kq.def_mk l KX G (st := Kq.s_L_plus) ?a ?lk ?c (fun _ _ _ _ _ _ us hl => match us, hl with | [_, _], _ => rfl); (case a => k_is); (case lk => k_is); (case c => k_is)
  case d_L_by => refine' Kq.def_mk l KX G (st := Kq.s_L_by) ?a ?lk ?c (fun _ _ _ _ _ _ us hl => match us, hl with | [_, _], _ => rfl); (case a => k_is); (case lk => k_is); (case c => k_is)
  case d_L_less => refine' Kq.def_mk l KX G (st := Kq.s_L_less) ?a ?lk ?c (fun _ _ _ _ _ _ us hl => match us, hl with | [_, _], _ => rfl); (case a => k_is); (case lk => k_is); (case c => k_is)
  case d_L_is_whole => refine' Kq.def_mk l KX G (st := Kq.s_L_is_whole) ?a ?lk ?c (fun _ _ _ _ _ _ us hl => match us, hl with | [_], _ => rfl); (case a => k_is); (case lk => k_is); (case c => k_is)
  case d_L_is_ratio => refine' Kq.def_mk l KX G (st := Kq.s_L_is_ratio) ?a ?lk ?c (fun _ _ _ _ _ _ us hl => match us, hl with | [_], _ => rfl); (case a => k_is); (case lk => k_is); (case c => k_is)
  case d_L_passed => refine' Kq.def_mk l KX G (st := Kq.s_L_passed) ?a ?lk ?c (fun _ _ _ _ _ _ us hl => match us, hl with | [_, _], _ => rfl); (case a => k_is); (case lk => k_is); (case c => k_is)
  case d_L_trimmed => refine' Kq.def_mk l KX G (st := Kq.s_L_trimmed) ?a ?lk ?c (fun _ _ _ _ _ _ us hl => match us, hl with | [_], _ => rfl); (case a => k_is); (case lk => k_is); (case c => k_is)
  case d_L_row_plus => refine' Kq.def_mk l KX G (st := Kq.s_L_row_plus) ?a ?lk ?c (fun _ _ _ _ _ _ us hl => match us, hl with | [_, _], _ => rfl); (case a => k_is); (case lk => k_is); (case c => k_is)
  case d_L_row_times => refine' Kq.def_mk l KX G (st := Kq.s_L_row_times) ?a ?lk ?c (fun _ _ _ _ _ _ us hl => match us, hl with | [_, _], _ => rfl); (case a => k_is); (case lk => k_is); (case c => k_is)
  case d_L_row_at => refine' Kq.def_mk l KX G (st := Kq.s_L_row_at) ?a ?lk ?c (fun _ _ _ _ _ _ us hl => match us, hl with | [_, _], _ => rfl); (case a => k_is); (case lk => k_is); (case c => k_is)
  case d_L_root_factor => refine' Kq.def_mk l KX G (st := Kq.s_L_root_factor) ?a ?lk ?c (fun _ _ _ _ _ _ us hl => match us, hl with | [_], _ => rfl); (case a => k_is); (case lk => k_is); (case c => k_is)
  case d_L_planted => refine' Kq.def_mk l KX G (st := Kq.s_L_planted) ?a ?lk ?c (fun _ _ _ _ _ _ us hl => match us, hl with | [_], _ => rfl); (case a => k_is); (case lk => k_is); (case c => k_is)
  case d_L_answer_right => refine' Kq.def_mk l KX G (st := Kq.s_L_answer_right) ?a ?lk ?c (fun _ _ _ _ _ _ us hl => match us, hl with | [_, _, _, _], _ => rfl); (case a => k_is); (case lk => k_is); (case c => k_is)
  case d_law => refine' Kq.def_mk l KX G (st := Kq.s_law) ?a ?lk ?c (fun _ _ _ _ _ _ us hl => match us, hl with | [_], _ => rfl); (case a => k_is); (case lk => k_is); (case c => k_is)
  case none0 => refine' Kq.none_mk l KX G ?a ?lk ?c ?d; (case a => k_is); (case lk => k_is); (case c => rfl); (case d => rfl)
  case b_isinstance => exact PySem.W.mg_none_of KX G (by k_is)
  case b_int => exact PySem.W.mg_none_of KX G (by k_is)
  case b_bool => exact PySem.W.mg_none_of KX G (by k_is)
  case b_tuple => exact PySem.W.mg_none_of KX G (by k_is)
  case b_len => exact PySem.W.mg_none_of KX G (by k_is)
  case b_abs => exact PySem.W.mg_none_of KX G (by k_is)
  case b_list => exact PySem.W.mg_none_of KX G (by k_is)
  case b_max => exact PySem.W.mg_none_of KX G (by k_is)
  case b_enumerate => exact PySem.W.mg_none_of KX G (by k_is)
  case b_sum => exact PySem.W.mg_none_of KX G (by k_is)
  case b_zip => exact PySem.W.mg_none_of KX G (by k_is)
  case b_range => exact PySem.W.mg_none_of KX G (by k_is)
  case b_all => exact PySem.W.mg_none_of KX G (by k_is)

