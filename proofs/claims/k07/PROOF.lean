import PyProof.Rows.All
import Wide.All
import OpenK.AllK
import Wide.FinOn
import KE.KCallOwn
import HandS.ForMost
import HandS.Codes
import HandS.CallLocal
import HandS.Flow
import HandS.IsInst
import HandS.StrMore
import HandS.Conv
import HandS.MakeKw
import HandS.Replace
import HandS.Exc
import HandS.SlotsOwn
import HandS.RaiseMore
import PySem.Challenge.RW_cellblocks_k07_whole_blocks_by_their_cel
set_option Elab.async false
set_option maxRecDepth 100000
set_option maxHeartbeats 4000000
set_option linter.all false
/-! K7a: the text by places, the data, the small defs -/
namespace K7
open PySem L2 SX

/-! ### the text by places -/
def top (i : Nat) : Stmt := PySem.Challenge.pw_cellblocks_k07_whole_blocks_by_their_cel.main.body.getD i (.Pass ⟨0, 0, 0, 0⟩)
abbrev sWhole : Stmt := top 7
abbrev sCount : Stmt := top 8
abbrev sCell : Stmt := top 9
abbrev sChecked : Stmt := top 10
abbrev sLettersOf : Stmt := top 14
abbrev sNumberOf : Stmt := top 15
abbrev sEnd : Stmt := top 19
abbrev sRows : Stmt := top 20
abbrev sColumns : Stmt := top 21
abbrev sAhead : Stmt := top 22
abbrev sByEnds : Stmt := top 23
abbrev sInit : Stmt := inClass (top 24) 0
abbrev sEq : Stmt := inClass (top 24) 1
abbrev sStr : Stmt := inClass (top 24) 2
abbrev sHas : Stmt := inClass (top 24) 4
abbrev sSize : Stmt := inClass (top 24) 5
abbrev sRowText : Stmt := top 25
abbrev sColText : Stmt := top 26
abbrev sCountOf : Stmt := top 27
abbrev sParted : Stmt := top 28
abbrev sBlockOf : Stmt := top 29
abbrev sWell : Stmt := top 32
abbrev sDraw : Stmt := top 33
abbrev sEnds : Stmt := top 34
abbrev sNear : Stmt := top 35
abbrev sWindow : Stmt := top 36
abbrev sCounted : Stmt := top 37
abbrev sBetween : Stmt := top 38
abbrev sLaw : Stmt := top 39

/-! ### heaps -/
theorem same_upd {H H' : Hp} {p : Addr} {o : HO} (s : Same H H') (h : H p = none) : Same H (L2.upd H' p o) := fun b u e => by
  rw [upd_ne (ne_of_none e h)]; exact s b u e
theorem same_new {H : Hp} {p : Addr} {o : HO} (h : H p = none) : Same H (L2.upd H p o) := same_upd (Same.refl H) h
theorem same_seqT {K : PySem.W.Frag} {H H' : Hp} {a : Addr} {xs : List V} (e : Same H H') (h : SqT K H a xs) : SqT K H' a xs := by
  rcases h with (h | ⟨o, h⟩) | h
  · exact .inl (.inl (e _ _ h))
  · exact .inl (.inr ⟨o, e _ _ h⟩)
  · exact .inr h

/-! ### an end: a number, or none (nought stands for none) -/
def eV (n : Nat) : V := if n = 0 then .non else .int (n : Int)
theorem eV_0 : eV 0 = .non := rfl
theorem eV_pos {n : Nat} (h : 1 ≤ n) : eV n = .int (n : Int) := if_neg (by omega)
theorem eV_isN (n : Nat) : decide (eV n = V.non) = decide (n = 0) := by
  by_cases h : n = 0
  · subst h; rfl
  · rw [eV_pos (by omega), decide_eq_false h]; rfl

/-! ### the texts of ends -/
def cT (c : Nat) : List Nat := if c = 0 then [] else [64 + c]
def rT (d : Nat) : List Nat := if d = 0 then [] else [48 + d]
/-- a block that the law meets: ends within 1 .. 9, none (0) behind the rows, the columns -/
structure Ok (t l b r : Nat) : Prop where
  t1 : 1 ≤ t
  t9 : t ≤ 9
  l1 : 1 ≤ l
  l9 : l ≤ 9
  b9 : b ≤ 9
  r9 : r ≤ 9
  tb : b = 0 ∨ t ≤ b
  lr : r = 0 ∨ l ≤ r
def isR (l b r : Nat) : Bool := decide (l = 1) && (decide (r = 0) && !decide (b = 0))
def isC (t b r : Nat) : Bool := decide (t = 1) && (decide (b = 0) && !decide (r = 0))
def szN (t l b r : Nat) : Nat := (b - t + 1) * (r - l + 1)
def szV (t l b r : Nat) : V := if b = 0 ∨ r = 0 then .non else .int (szN t l b r : Int)
/-- a block's text -/
def bT (t l b r : Nat) : List Nat :=
  if isR l b r = true then rT t ++ 58 :: rT b
  else if isC t b r = true then cT l ++ 58 :: cT r
  else if b = t ∧ r = l then cT l ++ rT t
  else (cT l ++ rT t) ++ 58 :: (cT r ++ rT b)

/-! ### the data -/
def bf (t l b r : Nat) : List (Str × V) := [("top", .int (t : Int)), ("left", .int (l : Int)), ("bottom", eV b), ("right", eV r)]
theorem bf_top (t l b r : Nat) : (bf t l b r).lookup ("top" : Str) = some (.int (t : Int)) := rfl
theorem bf_left (t l b r : Nat) : (bf t l b r).lookup ("left" : Str) = some (.int (l : Int)) := rfl
theorem bf_bottom (t l b r : Nat) : (bf t l b r).lookup ("bottom" : Str) = some (eV b) := rfl
theorem bf_right (t l b r : Nat) : (bf t l b r).lookup ("right" : Str) = some (eV r) := rfl
theorem bf_has (t l b r : Nat) : (bf t l b r).lookup ("has" : Str) = none := rfl
theorem bf_size (t l b r : Nat) : (bf t l b r).lookup ("size" : Str) = none := rfl
theorem bf_put (t l b r : Nat) : putF "right" (eV r) (putF "bottom" (eV b) (putF "left" (.int (l : Int)) (putF "top" (.int (t : Int)) []))) = bf t l b r := by
  simp only [putF, bf]
  rfl
/-- a block stands at a -/
def BAt (B : Addr) (H : Hp) (a : Addr) (t l b r : Nat) : Prop := ∃ dx, H a = some (.ins B dx (bf t l b r))
theorem BAt.same {B : Addr} {H H' : Hp} {a : Addr} {t l b r : Nat} (h : BAt B H a t l b r) (s : Same H H') : BAt B H' a t l b r := h.elim fun dx e => ⟨dx, s _ _ e⟩

/-! ### what is asked of the top -/
structure Txt (K : PySem.W.Frag) (mg : Str → Option Value) (B : Addr) : Prop where
  cl : Cls K B
  nT : NoAttr K B "top"
  nL : NoAttr K B "left"
  nB : NoAttr K B "bottom"
  nR : NoAttr K B "right"
  isInst : mg "isinstance" = none
  gInt : mg "int" = none
  gBool : mg "bool" = none
  gTuple : mg "tuple" = none
  gList : mg "list" = none
  gStr : mg "str" = none
  gLen : mg "len" = none
  gAll : mg "all" = none
  gDivmod : mg "divmod" = none
  gRange : mg "range" = none
  letters : ∃ u, mg "LETTERS" = some u ∧ RelV (.str "ABCDEFGHIJKLMNOPQRSTUVWXYZ") u
  figures : ∃ u, mg "FIGURES" = some u ∧ RelV (.str "0123456789") u
  mostL : ∃ u, mg "MOST_LETTERS" = some u ∧ RelV (.int 9) u
  mostF : ∃ u, mg "MOST_FIGURES" = some u ∧ RelV (.int 12) u
  gBlock : mg "Block" = some (.ref B)
  insC : C8.InsC K B

/-! ### the promises of the small defs -/
def spWhole : Sp := fun vs H Q _ => ∃ i : Int, vs = [.int i] ∧ Q (.bl true) H
def spCount : Sp := fun vs H Q _ => ∃ i : Int, vs = [.int i] ∧ Q (.bl (decide (1 ≤ i))) H
def spCell : Sp := fun vs H Q _ => ∃ (a : Addr) (x y : Int), vs = [.ref a] ∧ H a = some (.tup [.int x, .int y]) ∧ 1 ≤ x ∧ 1 ≤ y ∧ ∀ H', Same H H' → Q (.bl true) H'
def spChecked : Sp := fun vs H Q _ => ∃ (a : Addr) (x y : Int), vs = [.ref a] ∧ H a = some (.tup [.int x, .int y]) ∧ 1 ≤ x ∧ 1 ≤ y ∧ ∀ H', Same H H' → Q .non H'

section
variable {P : Program} {w : World} {K : PySem.W.Frag} {mg : Str → Option Value} {base : Heap} {B : Addr}

theorem scWhole : FnScope ["thing"] ["thing"] (C8.fnScope sWhole) := C8.fnScope_by (by decide +kernel)
theorem ok_whole {f : Addr} {fd : FuncData} (F : C8.Def K mg "is_whole" sWhole f fd) (df : fd.defaults = .none) (T : Txt K mg B) : C8.Cal P w K mg base 1 "is_whole" spWhole [] := by
  refine C8.cal0 F (F.fn.binds df (ps := ["thing"]) fun _ _ _ _ _ _ us hl => match us, hl with | [_], _ => rfl) .nil scWhole (fun vs H Q E h => ?_) (fun cdv A outer s H vs Q E hr h => ?_)
  · obtain ⟨i, rfl, _⟩ := h
    rfl
  · obtain ⟨i, rfl, k⟩ := h
    refine ⟨_, pss_one (ps_ret (pe_and (pe_callB call_isi (by rfl) T.isInst (by decide +kernel) (pa_cons (pv 0) (pa_cons (pe_bltn (v := .ty "int") (u := .type "int") (by rfl) T.gInt (by decide +kernel) rfl) pa_nil)))
      (pe_one (pe_not (pe_callB call_isi (by rfl) T.isInst (by decide +kernel) (pa_cons (pv 0) (pa_cons (pe_bltn (v := .ty "bool") (u := .type "bool") (by rfl) T.gBool (by decide +kernel) rfl) pa_nil))))))), ?_⟩
    refine ⟨_, rfl, _, _, _, _, true, rfl, .ty _, .base (.int _), kit_ty (by decide +kernel), true, rfl, iteT ?_⟩
    exact ⟨_, rfl, _, _, _, _, false, rfl, .ty _, .base (.int _), kit_ty (by decide +kernel), false, rfl, k⟩

theorem scCount : FnScope ["thing"] ["thing"] (C8.fnScope sCount) := C8.fnScope_by (by decide +kernel)
theorem ok_count {f : Addr} {fd : FuncData} (F : C8.Def K mg "is_count" sCount f fd) (df : fd.defaults = .none) (T : Txt K mg B) (c1 : C8.Cal P w K mg base 1 "is_whole" spWhole []) : C8.Cal P w K mg base 2 "is_count" spCount [] := by
  refine C8.cal0 F (F.fn.binds df (ps := ["thing"]) fun _ _ _ _ _ _ us hl => match us, hl with | [_], _ => rfl) .nil scCount (fun vs H Q E h => ?_) (fun cdv A outer s H vs Q E hr h => ?_)
  · obtain ⟨i, rfl, _⟩ := h
    rfl
  · obtain ⟨i, rfl, k⟩ := h
    refine ⟨_, pss_one (ps_ret (pe_and (C8.pe_c c1 hr (by decide) (by rfl) (pa_cons (pv 0) pa_nil)) (pe_one (pe_cmp (pc_ge (pv 0) pe_int) rfl)))), ?_⟩
    exact ⟨_, rfl, i, rfl, true, rfl, iteT ⟨_, rfl, _, _, rfl, rfl, k⟩⟩

theorem scCell : FnScope ["thing", "part"] ["thing"] (C8.fnScope sCell) := C8.fnScope_by (by decide +kernel)
theorem ok_cell {f : Addr} {fd : FuncData} (F : C8.Def K mg "is_cell" sCell f fd) (df : fd.defaults = .none) (T : Txt K mg B) (c2 : C8.Cal P w K mg base 2 "is_count" spCount []) : C8.Cal P w K mg base 3 "is_cell" spCell [] := by
  refine C8.cal0 F (F.fn.binds df (ps := ["thing"]) fun _ _ _ _ _ _ us hl => match us, hl with | [_], _ => rfl) .nil scCell (fun vs H Q E h => ?_) (fun cdv A outer s H vs Q E hr h => ?_)
  · obtain ⟨a, x, y, rfl, _⟩ := h
    rfl
  · obtain ⟨a, x, y, rfl, ha, hx, hy, k⟩ := h
    refine ⟨_, pss_one (ps_ret (pe_and (pe_callB call_isi (by rfl) T.isInst (by decide +kernel) (pa_cons (pv 0) (pa_cons (pe_bltn (v := .ty "tuple") (u := .type "tuple") (by rfl) T.gTuple (by decide +kernel) rfl) pa_nil)))
      (pe_and (pe_cmp (pc_eqI (pe_callB call_len_seq (by rfl) T.gLen (by decide +kernel) (pa_cons (pv 0) pa_nil)) pe_int) rfl)
      (pe_one (pe_callB (cr_all rfl) (by rfl) T.gAll (by decide +kernel) (pa_cons (pe_lc (own := [("part", 1)]) (g := gName 1) (tt := tYes) rfl scCell.nd (pi_tup (pv 0)) (blkOk_by (own := [("part", 1)]) (N := ["thing", "part"]) (sc := C8.fnScope sCell) (by decide +kernel))
        (fun _ _ _ _ _ => pg_name (i := 1) scCell.nd rfl (Or.inl rfl)) (fun _ _ _ _ _ => pts_nil) (fun _ _ _ _ _ => C8.pe_c c2 hr (by decide) (by rfl) (pa_cons (pv 1) pa_nil))) pa_nil)))))), ?_⟩
    refine ⟨_, rfl, _, _, _, _, true, rfl, .ty _, .base (.tup ha), kit_ty (by decide +kernel), true, rfl, iteT ?_⟩
    refine ⟨_, rfl, a, [.int x, .int y], rfl, .inr (.inl (.inl ha)), _, _, rfl, rfl, _, rfl, iteT ?_⟩
    refine ⟨_, rfl, a, rfl, ⟨_, .inl (.inl ha)⟩, fun D hD => lc_tup (K := K) (a := a) (xs := [.int x, .int y]) (fun i H' => Same H H' ∧ H' D = some (.lst (List.replicate i (.bl true)))) ⟨same_new hD, upd_same⟩ (fun i H' _ p => .inl (.inl (p.1 _ _ ha))) ?_ ?_⟩
    · rintro i v H' hi ⟨s, e⟩
      have hv : ∃ z : Int, v = .int z ∧ 1 ≤ z := by
        match i, hi with
        | 0, hi => exact ⟨x, (Option.some.inj hi).symm, hx⟩
        | 1, hi => exact ⟨y, (Option.some.inj hi).symm, hy⟩
      obtain ⟨z, rfl, hz⟩ := hv
      refine ⟨rfl, _, rfl, z, rfl, _, e, ?_, same_upd s hD, ?_⟩
      · have hi2 : i < 2 := (List.getElem?_eq_some_iff.mp hi).1
        rw [List.length_replicate]
        exact small1000 (by omega)
      · rw [upd_same, decide_eq_true hz, List.replicate_succ']
    · rintro H' ⟨s, e⟩
      exact ⟨D, [true, true], rfl, SqL.of e, k H' s⟩

theorem scChecked : FnScope ["thing"] ["thing"] (C8.fnScope sChecked) := C8.fnScope_by (by decide +kernel)
theorem ok_checked {f : Addr} {fd : FuncData} (F : C8.Def K mg "checked_cell" sChecked f fd) (df : fd.defaults = .none) (T : Txt K mg B) (c3 : C8.Cal P w K mg base 3 "is_cell" spCell []) : C8.Cal P w K mg base 4 "checked_cell" spChecked [] := by
  refine C8.cal0 F (F.fn.binds df (ps := ["thing"]) fun _ _ _ _ _ _ us hl => match us, hl with | [_], _ => rfl) .nil scChecked (fun vs H Q E h => ?_) (fun cdv A outer s H vs Q E hr h => ?_)
  · obtain ⟨a, x, y, rfl, _⟩ := h
    rfl
  · obtain ⟨a, x, y, rfl, ha, hx, hy, k⟩ := h
    refine ⟨_, pss_one (ps_if (pt_not (pt_val (C8.pe_c c3 hr (by decide) (by rfl) (pa_cons (pv 0) pa_nil)))) pss_never pss_nil), ?_⟩
    exact ⟨_, rfl, a, x, y, rfl, ha, hx, hy, fun H' s => ⟨true, rfl, iteF (k H' s)⟩⟩
end
end K7

/-! K7b: letters, ends, kinds of blocks -/
namespace K7
open PySem L2 SX

/-! ### texts, by looking at each of the few -/
abbrev LET : Str := "ABCDEFGHIJKLMNOPQRSTUVWXYZ"
abbrev FIG : Str := "0123456789"
theorem let_len : LET.length = 26 := by decide +kernel
theorem let_at {n : Nat} (h1 : 1 ≤ n) (h9 : n ≤ 9) : LET.cps[n - 1]? = some (64 + n) := by
  have h : ∀ m, m < 10 → 1 ≤ m → LET.cps[m - 1]? = some (64 + m) := by decide +kernel
  exact h n (by omega) h1
theorem let_ix {n : Nat} (h1 : 1 ≤ n) (h9 : n ≤ 9) : Builtin.Str.occurrences LET (S [64 + n]) 0 LET.length 1 = [n - 1] := by
  have h : ∀ m, m < 10 → 1 ≤ m → Builtin.Str.occurrences LET (S [64 + m]) 0 LET.length 1 = [m - 1] := by decide +kernel
  exact h n (by omega) h1
theorem let_strip {n : Nat} (h1 : 1 ≤ n) (h9 : n ≤ 9) : Txt.stripChars (S [64 + n]) LET = ("" : Str) := by
  have h : ∀ m, m < 10 → 1 ≤ m → Txt.stripChars (S [64 + m]) LET = ("" : Str) := by decide +kernel
  exact h n (by omega) h1
theorem fig_strip {n : Nat} (h1 : 1 ≤ n) (h9 : n ≤ 9) : Txt.stripChars (S [48 + n]) FIG = ("" : Str) := by
  have h : ∀ m, m < 10 → 1 ≤ m → Txt.stripChars (S [48 + m]) FIG = ("" : Str) := by decide +kernel
  exact h n (by omega) h1
theorem fig_int {n : Nat} (h1 : 1 ≤ n) (h9 : n ≤ 9) : PySem.intText? (S [48 + n]) = some (n : Int) := by
  have h : ∀ m, m < 10 → 1 ≤ m → PySem.intText? (S [48 + m]) = some ((m : Nat) : Int) := by decide +kernel
  exact h n (by omega) h1
theorem num_txt {n : Nat} (h1 : 1 ≤ n) (h9 : n ≤ 9) : Str.ofString (toString ((n : Nat) : Int)) = S (rT n) := by
  have h : ∀ m, m < 10 → 1 ≤ m → Str.ofString (toString ((m : Nat) : Int)) = S (rT m) := by decide +kernel
  exact h n (by omega) h1
theorem emp_S : ("" : Str) = S [] := by decide +kernel
theorem col_S : (":" : Str) = S [58] := by decide +kernel

/-! ### promises -/
def spLetters : Sp := fun vs H Q _ => ∃ n : Nat, vs = [.int (n : Int)] ∧ 1 ≤ n ∧ n ≤ 9 ∧ ∀ H', Same H H' → Q (.str (S (cT n))) H'
def spNumber : Sp := fun vs H Q _ => ∃ n : Nat, vs = [.str (S [64 + n])] ∧ 1 ≤ n ∧ n ≤ 9 ∧ Q (.int (n : Int)) H
def spEnd : Sp := fun vs H Q _ => ∃ f l : Nat, vs = [.int (f : Int), eV l] ∧ (l = 0 ∨ f ≤ l) ∧ Q (.bl true) H
def spRows (B : Addr) : Sp := fun vs H Q _ => ∃ (a : Addr) (t l b r : Nat), vs = [.ref a] ∧ BAt B H a t l b r ∧ Q (.bl (isR l b r)) H
def spColumns (B : Addr) : Sp := fun vs H Q _ => ∃ (a : Addr) (t l b r : Nat), vs = [.ref a] ∧ BAt B H a t l b r ∧ Q (.bl (isC t b r)) H
def spSize (B : Addr) : Sp := fun vs H Q _ => ∃ (a : Addr) (t l b r : Nat), vs = [.ref a] ∧ BAt B H a t l b r ∧ Ok t l b r ∧ Q (szV t l b r) H
def spAhead : Sp := fun vs H Q _ => ∃ x y : List Nat, vs = [.str (S x), .str (S y)] ∧ x.length ≤ 100 ∧ y.length ≤ 100 ∧ Q (.str (S (y ++ x))) H
def spRowText : Sp := fun vs H Q _ => ∃ n : Nat, vs = [eV n] ∧ n ≤ 9 ∧ Q (.str (S (rT n))) H
def spColText : Sp := fun vs H Q _ => ∃ n : Nat, vs = [eV n] ∧ n ≤ 9 ∧ ∀ H', Same H H' → Q (.str (S (cT n))) H'

section
variable {P : Program} {w : World} {K : PySem.W.Frag} {mg : Str → Option Value} {base : Heap} {B : Addr}

def wLet (H : Hp) (n : Nat) : Nat → St → Hp → Prop := fun m σ H' => Same H H' ∧ ((m = 1 ∧ σ = [some (.int (n : Int)), some (.str ("" : Str)), none]) ∨ (m = 0 ∧ σ = [some (.int 0), some (.str (S [64 + n])), some (.int ((n : Int) - 1))]))
theorem scLettersOf : FnScope ["number", "found", "rest"] ["number"] (C8.fnScope sLettersOf) := C8.fnScope_by (by decide +kernel)
theorem ok_letters {f : Addr} {fd : FuncData} (F : C8.Def K mg "letters_of" sLettersOf f fd) (df : fd.defaults = .none) (T : Txt K mg B) (c2 : C8.Cal P w K mg base 2 "is_count" spCount []) : C8.Cal P w K mg base 3 "letters_of" spLetters [] := by
  refine C8.cal0 F (F.fn.binds df (ps := ["number"]) fun _ _ _ _ _ _ us hl => match us, hl with | [_], _ => rfl) .nil scLettersOf (fun vs H Q E h => ?_) (fun cdv A outer s H vs Q E hr h => ?_)
  · obtain ⟨n, rfl, _⟩ := h
    rfl
  · obtain ⟨n, rfl, h1, h9, k⟩ := h
    refine ⟨_, pss_cons (ps_if (pt_not (pt_val (C8.pe_c c2 hr (by decide) (by rfl) (pa_cons (pv 0) pa_nil)))) pss_never pss_nil)
      (pss_cons (ps_set (i := 1) scLettersOf.nd rfl (Or.inl rfl) pe_str)
      (pss_cons (ps_while PassesOwn.never (pt_cmp (pc_gt (pv 0) pe_int))
        (pss_cons (ps_asg (pe_callB call_divmod (by rfl) T.gDivmod (by decide +kernel) (pa_cons (pe_op op_sub (pv 0) pe_int) (pa_cons pe_int pa_nil)))
          (pg_tup (by rfl) (pgs_cons (pg_name (i := 0) scLettersOf.nd rfl (Or.inl rfl)) (pgs_cons (pg_name (i := 2) scLettersOf.nd rfl (Or.inl rfl)) pgs_nil))))
        (pss_one (ps_set (i := 1) scLettersOf.nd rfl (Or.inl rfl) (pe_op op_add_str (pe_item_str (C8.pe_gc (by rfl) T.letters) (pv 2) (fun _ _ => rfl)) (pv 1))))))
      (pss_one (ps_ret (pv 1))))), ?_⟩
    refine ⟨_, rfl, _, rfl, _, rfl, iteNS (show (1 : Int) ≤ (n : Int) by omega) ?_⟩
    refine ⟨wLet H n, ⟨1, Same.refl H, .inl ⟨rfl, rfl⟩⟩, ?_⟩
    rintro m σ H' ⟨s1, ⟨rfl, rfl⟩ | ⟨rfl, rfl⟩⟩
    · refine ⟨_, rfl, _, _, rfl, rfl, true, congrArg V.bl (decide_eq_true (show (0 : Int) < (n : Int) by omega)), wLet H n 0, fun σ' H'' q => ⟨0, by decide, q⟩, ?_⟩
      refine ⟨_, rfl, _, _, rfl, rfl, _, _, rfl, ⟨by decide, by decide⟩, fun p hp => ⟨p, _, rfl, SqT.of upd_same, rfl, _, _, rfl, _, _, rfl, rfl, ?_⟩⟩
      have e1 : ((n : Int) - 1) / 26 = 0 := by omega
      have e2 : ((n : Int) - 1) % 26 = (n : Int) - 1 := by omega
      have e3 : ((n : Int) - 1).toNat = n - 1 := by omega
      refine ⟨_, rfl, LET, (n : Int) - 1, 64 + n, rfl, congrArg V.int e2, by omega, by omega, by rw [let_len]; omega, by rw [e3]; exact let_at h1 h9, _, rfl, _, _, rfl, rfl, (by show 1 + 0 ≤ sizeLine; decide), ?_⟩
      refine ⟨same_upd s1 (s1.free hp), .inr ⟨rfl, ?_⟩⟩
      have e4 : (⟨#[64 + n]⟩ : Str) ++ ("" : Str) = S [64 + n] := by
        rw [emp_S]
        exact (S_cat [64 + n] []).trans (by rw [List.append_nil])
      show [some (V.int (((n : Int) - 1) / 26)), some (V.str ((⟨#[64 + n]⟩ : Str) ++ ("" : Str))), some (V.int (((n : Int) - 1) % 26))] = _
      rw [e1, e2, e4]
    · refine ⟨_, rfl, _, _, rfl, rfl, false, congrArg V.bl (decide_eq_false (show ¬ (0 : Int) < (0 : Int) by omega)), ?_⟩
      refine iteF ⟨_, rfl, ?_⟩
      have e : cT n = [64 + n] := if_neg (by omega)
      have q := k H' s1
      rw [e] at q
      exact q

theorem scNumberOf : FnScope ["letters", "found", "letter"] ["letters"] (C8.fnScope sNumberOf) := C8.fnScope_by (by decide +kernel)
theorem ok_number {f : Addr} {fd : FuncData} (F : C8.Def K mg "number_of" sNumberOf f fd) (df : fd.defaults = .none) (T : Txt K mg B) : C8.Cal P w K mg base 1 "number_of" spNumber [] := by
  refine C8.cal0 F (F.fn.binds df (ps := ["letters"]) fun _ _ _ _ _ _ us hl => match us, hl with | [_], _ => rfl) .nil scNumberOf (fun vs H Q E h => ?_) (fun cdv A outer s H vs Q E hr h => ?_)
  · obtain ⟨n, rfl, _⟩ := h
    rfl
  · obtain ⟨n, rfl, h1, h9, k⟩ := h
    refine ⟨_, pss_cons (ps_if (PW.pt (pw_or (pt_not (pt_val (pe_callB call_isi (by rfl) T.isInst (by decide +kernel) (pa_cons (pv 0) (pa_cons (pe_bltn (v := .ty "str") (u := .type "str") (by rfl) T.gStr (by decide +kernel) rfl) pa_nil)))))
        (pw_or (pt_cmpR op_ne (pe_bm PySem.F.plainAttrs_str PySem.F.slot_str_strip PySem.F.type_str_strip mt_stripChars (pv 0) (pa_cons (C8.pe_gc (by rfl) T.letters) pa_nil)) pe_str (nomark _))
        (pw_or1 (pt_not (pt_chain op_le op_le pe_int (pe_callB call_len_str (by rfl) T.gLen (by decide +kernel) (pa_cons (pv 0) pa_nil)) (C8.pe_gc (by rfl) T.mostL))))))) pss_never pss_nil)
      (pss_cons (ps_set (i := 1) scNumberOf.nd rfl (Or.inl rfl) pe_int)
      (pss_cons (ps_for PassesOwn.never rfl (pi_str (pv 0)) (pg_name (i := 2) scNumberOf.nd rfl (Or.inl rfl))
        (pss_one (ps_set (i := 1) scNumberOf.nd rfl (Or.inl rfl) (pe_op op_add (pe_op op_add (pe_op op_mul (pv 1) pe_int)
          (pe_bm PySem.F.plainAttrs_str PySem.F.slot_str_index PySem.F.type_str_index mt_sindex (C8.pe_gc (by rfl) T.letters) (pa_cons (pv 2) pa_nil))) pe_int))))
      (pss_one (ps_ret (pv 1))))), ?_⟩
    refine ⟨_, rfl, _, _, _, _, true, rfl, .ty _, .base (.str _), kit_ty (by decide +kernel), true, rfl, iteF ?_⟩
    refine ⟨_, rfl, rfl, _, _, rfl, rfl, (by show 1 ≤ sizeLine; decide), rfl, _, rfl, ?_⟩
    refine iteNS (congrArg V.str (let_strip h1 h9)) ?_
    refine ⟨_, rfl, _, rfl, (by show 1 ≤ sizeLine; decide), _, _, rfl, rfl, true, congrArg V.bl (decide_eq_true (show (1 : Int) ≤ ((1 : Nat) : Int) by decide)), ?_⟩
    refine ⟨_, _, rfl, rfl, true, congrArg V.bl (decide_eq_true (show ((1 : Nat) : Int) ≤ (9 : Int) by decide)), iteF ?_⟩
    refine ⟨_, rfl, S [64 + n], rfl, fun i m σ H' => H' = H ∧ ((i = 0 ∧ m = 1 ∧ σ = [some (.str (S [64 + n])), some (.int 0), none]) ∨ (i = 1 ∧ m = 0 ∧ σ = [some (.str (S [64 + n])), some (.int (n : Int)), some (.str (S [64 + n]))])), ⟨1, rfl, .inl ⟨rfl, rfl, rfl⟩⟩, ?_⟩
    rintro i m σ H' ⟨rfl, ⟨rfl, rfl, rfl⟩ | ⟨rfl, rfl, rfl⟩⟩
    · refine .inr ⟨Nat.zero_lt_one, fun σ' H'' => H'' = H' ∧ σ' = [some (.str (S [64 + n])), some (.int (n : Int)), some (.str (S [64 + n]))], fun σ' H'' q => ⟨0, by decide, q.1, .inr ⟨rfl, rfl, q.2⟩⟩, ?_⟩
      rintro x H'' ⟨rfl, c, hc, rfl⟩
      have hc2 : 64 + n = c := Option.some.inj hc
      subst hc2
      refine ⟨_, rfl, _, _, rfl, rfl, .inl ⟨by decide, by decide⟩, rfl, _, rfl, LET, S [64 + n], n - 1, [], rfl, rfl, let_ix h1 h9, _, _, rfl, rfl, _, _, rfl, rfl, rfl, ?_⟩
      have e : (0 : Int) * 26 + ((n - 1 : Nat) : Int) + 1 = (n : Int) := by omega
      show [some (V.str (S [64 + n])), some (V.int ((0 : Int) * 26 + ((n - 1 : Nat) : Int) + 1)), some (V.str (S [64 + n]))] = _
      rw [e]
    · refine .inl ⟨Nat.le_refl 1, _, rfl, k⟩

theorem scEnd : FnScope ["first", "last"] ["first", "last"] (C8.fnScope sEnd) := C8.fnScope_by (by decide +kernel)
theorem ok_end {f : Addr} {fd : FuncData} (F : C8.Def K mg "is_end" sEnd f fd) (df : fd.defaults = .none) (c2 : C8.Cal P w K mg base 2 "is_count" spCount []) : C8.Cal P w K mg base 3 "is_end" spEnd [] := by
  refine C8.cal0 F (F.fn.binds df (ps := ["first", "last"]) fun _ _ _ _ _ _ us hl => match us, hl with | [_, _], _ => rfl) .nil scEnd (fun vs H Q E h => ?_) (fun cdv A outer s H vs Q E hr h => ?_)
  · obtain ⟨i, j, rfl, _⟩ := h
    rfl
  · obtain ⟨i, j, rfl, hij, k⟩ := h
    refine ⟨_, pss_one (ps_ret (pe_or (pe_cmp (pc_isN (pv 1)) rfl) (pe_one (pe_and (C8.pe_c c2 hr (by decide) (by rfl) (pa_cons (pv 1) pa_nil)) (pe_one (pe_cmp (pc_ge (pv 1) (pv 0)) rfl)))))), ?_⟩
    by_cases hj : j = 0
    · subst hj
      exact ⟨_, rfl, true, rfl, iteT k⟩
    · have e : eV j = V.int (j : Int) := eV_pos (by omega)
      rw [e]
      refine ⟨_, rfl, false, rfl, iteF ?_⟩
      refine ⟨_, rfl, (j : Int), rfl, true, congrArg V.bl (decide_eq_true (show (1 : Int) ≤ (j : Int) by omega)), iteT ?_⟩
      refine ⟨_, rfl, _, rfl, _, _, rfl, rfl, ?_⟩
      show Q (.bl (decide ((i : Int) ≤ (j : Int)))) H
      rw [decide_eq_true (show ((i : Nat) : Int) ≤ (j : Int) by omega)]
      exact k

theorem scRows : FnScope ["block"] ["block"] (C8.fnScope sRows) := C8.fnScope_by (by decide +kernel)
theorem ok_rows {f : Addr} {fd : FuncData} (F : C8.Def K mg "is_rows" sRows f fd) (df : fd.defaults = .none) (T : Txt K mg B) : C8.Cal P w K mg base 1 "is_rows" (spRows B) [] := by
  refine C8.cal0 F (F.fn.binds df (ps := ["block"]) fun _ _ _ _ _ _ us hl => match us, hl with | [_], _ => rfl) .nil scRows (fun vs H Q E h => ?_) (fun cdv A outer s H vs Q E hr h => ?_)
  · obtain ⟨a, t, l, b, r, rfl, _⟩ := h
    rfl
  · obtain ⟨a, t, l, b, r, rfl, ⟨dx, ha⟩, k⟩ := h
    refine ⟨_, pss_one (ps_ret (pe_and (pe_cmp (pc_eqI (pe_fld (pv 0) rfl) pe_int) rfl) (pe_and (pe_cmp (pc_isN (pe_fld (pv 0) rfl)) rfl) (pe_one (pe_cmp (pc_notN (pe_fld (pv 0) rfl)) rfl))))), ?_⟩
    refine ⟨_, rfl, a, B, dx, _, _, rfl, ha, T.cl, T.nL, bf_left t l b r, _, _, rfl, rfl, decide (l = 1), congrArg V.bl (show decide ((l : Int) = 1) = decide (l = 1) by rw [Bool.eq_iff_iff, decide_eq_true_iff, decide_eq_true_iff]; omega), ?_⟩
    cases h1 : decide (l = 1) with
    | false =>
      refine iteF ?_
      have e : isR l b r = false := by unfold isR; rw [h1]; rfl
      rw [e] at k
      exact k
    | true =>
      refine iteT ⟨_, rfl, a, B, dx, _, _, rfl, ha, T.cl, T.nR, bf_right t l b r, _, rfl, ?_⟩
      rw [eV_isN]
      cases h2 : decide (r = 0) with
      | false =>
        refine iteF ?_
        have e : isR l b r = false := by unfold isR; rw [h1, h2]; rfl
        rw [e] at k
        exact k
      | true =>
        refine iteT ⟨_, rfl, a, B, dx, _, _, rfl, ha, T.cl, T.nB, bf_bottom t l b r, ?_⟩
        show Q (.bl (!decide (eV b = V.non))) H
        rw [eV_isN]
        have e : isR l b r = !decide (b = 0) := by unfold isR; rw [h1, h2]; rfl
        rw [e] at k
        exact k

theorem scColumns : FnScope ["block"] ["block"] (C8.fnScope sColumns) := C8.fnScope_by (by decide +kernel)
theorem ok_columns {f : Addr} {fd : FuncData} (F : C8.Def K mg "is_columns" sColumns f fd) (df : fd.defaults = .none) (T : Txt K mg B) : C8.Cal P w K mg base 1 "is_columns" (spColumns B) [] := by
  refine C8.cal0 F (F.fn.binds df (ps := ["block"]) fun _ _ _ _ _ _ us hl => match us, hl with | [_], _ => rfl) .nil scColumns (fun vs H Q E h => ?_) (fun cdv A outer s H vs Q E hr h => ?_)
  · obtain ⟨a, t, l, b, r, rfl, _⟩ := h
    rfl
  · obtain ⟨a, t, l, b, r, rfl, ⟨dx, ha⟩, k⟩ := h
    refine ⟨_, pss_one (ps_ret (pe_and (pe_cmp (pc_eqI (pe_fld (pv 0) rfl) pe_int) rfl) (pe_and (pe_cmp (pc_isN (pe_fld (pv 0) rfl)) rfl) (pe_one (pe_cmp (pc_notN (pe_fld (pv 0) rfl)) rfl))))), ?_⟩
    refine ⟨_, rfl, a, B, dx, _, _, rfl, ha, T.cl, T.nT, bf_top t l b r, _, _, rfl, rfl, decide (t = 1), congrArg V.bl (show decide ((t : Int) = 1) = decide (t = 1) by rw [Bool.eq_iff_iff, decide_eq_true_iff, decide_eq_true_iff]; omega), ?_⟩
    cases h1 : decide (t = 1) with
    | false =>
      refine iteF ?_
      have e : isC t b r = false := by unfold isC; rw [h1]; rfl
      rw [e] at k
      exact k
    | true =>
      refine iteT ⟨_, rfl, a, B, dx, _, _, rfl, ha, T.cl, T.nB, bf_bottom t l b r, _, rfl, ?_⟩
      rw [eV_isN]
      cases h2 : decide (b = 0) with
      | false =>
        refine iteF ?_
        have e : isC t b r = false := by unfold isC; rw [h1, h2]; rfl
        rw [e] at k
        exact k
      | true =>
        refine iteT ⟨_, rfl, a, B, dx, _, _, rfl, ha, T.cl, T.nR, bf_right t l b r, ?_⟩
        show Q (.bl (!decide (eV r = V.non))) H
        rw [eV_isN]
        have e : isC t b r = !decide (r = 0) := by unfold isC; rw [h1, h2]; rfl
        rw [e] at k
        exact k

theorem scSize : FnScope ["self"] ["self"] (C8.fnScope sSize) := C8.fnScope_by (by decide +kernel)
theorem ok_size {f : Addr} {fd : FuncData} (F : C8.Fun K "size" "Block.size" sSize f fd) (M : Meth K B "size" f) (df : fd.defaults = .none) (T : Txt K mg B) : C8.Met P w K mg base 1 B "size" (spSize B) [] := by
  refine C8.met0 T.cl M F (F.binds df (ps := ["self"]) fun _ _ _ _ _ _ us hl => match us, hl with | [_], _ => rfl) scSize (fun vs H Q E h => ?_) (fun cdv A outer s H vs Q E hr h => ?_)
  · obtain ⟨a, t, l, b, r, rfl, _⟩ := h
    rfl
  · obtain ⟨a, t, l, b, r, rfl, ⟨dx, ha⟩, O, k⟩ := h
    refine ⟨_, pss_cons (ps_if (PW.pt (pw_or (pt_cmp (pc_isN (pe_fld (pv 0) rfl))) (pw_or1 (pt_cmp (pc_isN (pe_fld (pv 0) rfl)))))) (pss_one (ps_ret pe_non)) pss_nil)
      (pss_one (ps_ret (pe_op op_mul (pe_op op_add (pe_op op_sub (pe_fld (pv 0) rfl) (pe_fld (pv 0) rfl)) pe_int) (pe_op op_add (pe_op op_sub (pe_fld (pv 0) rfl) (pe_fld (pv 0) rfl)) pe_int)))), ?_⟩
    refine ⟨_, rfl, a, B, dx, _, _, rfl, ha, T.cl, T.nB, bf_bottom t l b r, _, rfl, ?_⟩
    rw [eV_isN]
    by_cases hb : b = 0
    · rw [decide_eq_true hb]
      have e : szV t l b r = V.non := if_pos (.inl hb)
      rw [e] at k
      exact iteT (iteT k)
    · rw [decide_eq_false hb]
      refine iteF ⟨_, rfl, a, B, dx, _, _, rfl, ha, T.cl, T.nR, bf_right t l b r, _, rfl, ?_⟩
      rw [eV_isN]
      by_cases hr0 : r = 0
      · rw [decide_eq_true hr0]
        have e : szV t l b r = V.non := if_pos (.inr hr0)
        rw [e] at k
        exact iteT k
      · rw [decide_eq_false hr0]
        refine iteF ?_
        have hb2 := bf_bottom t l b r
        have hr2 := bf_right t l b r
        rw [eV_pos (show 1 ≤ b by omega)] at hb2
        rw [eV_pos (show 1 ≤ r by omega)] at hr2
        refine ⟨_, rfl, a, B, dx, _, _, rfl, ha, T.cl, T.nB, hb2, _, rfl, a, B, dx, _, _, rfl, ha, T.cl, T.nT, bf_top t l b r, _, _, rfl, rfl, _, _, rfl, rfl, ?_⟩
        refine ⟨_, rfl, a, B, dx, _, _, rfl, ha, T.cl, T.nR, hr2, _, rfl, a, B, dx, _, _, rfl, ha, T.cl, T.nL, bf_left t l b r, _, _, rfl, rfl, _, _, rfl, rfl, _, _, rfl, rfl, ?_, ?_⟩
        · have := O.b9
          have := O.t9
          exact .inl ⟨by omega, by omega⟩
        · have e : szV t l b r = V.int (((b : Int) - (t : Int) + 1) * ((r : Int) - (l : Int) + 1)) := by
            unfold szV
            rw [if_neg (by omega)]
            have h1 := O.tb
            have h2 := O.lr
            have e1 : (b : Int) - (t : Int) + 1 = ((b - t + 1 : Nat) : Int) := by omega
            have e2 : (r : Int) - (l : Int) + 1 = ((r - l + 1 : Nat) : Int) := by omega
            rw [e1, e2, ← Int.natCast_mul]
            rfl
          rw [e] at k
          exact k

theorem scAhead : FnScope ["row", "column"] ["row", "column"] (C8.fnScope sAhead) := C8.fnScope_by (by decide +kernel)
theorem ok_ahead {f : Addr} {fd : FuncData} (F : C8.Def K mg "letters_ahead" sAhead f fd) (df : fd.defaults = .none) : C8.CalAt P w K mg base 1 f spAhead := by
  refine ⟨fd, ["row", "column"], C8.fn0 F.fn scAhead (fun vs H Q E h => ?_) (fun cdv A outer s H vs Q E hr h => ?_), F.kp, F.fn.binds df (ps := ["row", "column"]) fun _ _ _ _ _ _ us hl => match us, hl with | [_, _], _ => rfl⟩
  · obtain ⟨x, y, rfl, _⟩ := h
    rfl
  · obtain ⟨x, y, rfl, hx, hy, k⟩ := h
    refine ⟨_, pss_one (ps_ret (pe_op op_add_str (pv 1) (pv 0))), ?_⟩
    refine ⟨_, rfl, _, rfl, _, _, rfl, rfl, ?_, ?_⟩
    · rw [S_len, S_len]
      exact Nat.le_of_lt (small1000 (by omega))
    · rw [S_cat]
      exact k

theorem scRowText : FnScope ["number"] ["number"] (C8.fnScope sRowText) := C8.fnScope_by (by decide +kernel)
theorem ok_rowText {f : Addr} {fd : FuncData} (F : C8.Def K mg "row_text" sRowText f fd) (df : fd.defaults = .none) (T : Txt K mg B) : C8.Cal P w K mg base 1 "row_text" spRowText [] := by
  refine C8.cal0 F (F.fn.binds df (ps := ["number"]) fun _ _ _ _ _ _ us hl => match us, hl with | [_], _ => rfl) .nil scRowText (fun vs H Q E h => ?_) (fun cdv A outer s H vs Q E hr h => ?_)
  · obtain ⟨n, rfl, _⟩ := h
    rfl
  · obtain ⟨n, rfl, h9, k⟩ := h
    refine ⟨_, pss_cons (ps_if (pt_cmp (pc_isN (pv 0))) (pss_one (ps_ret pe_str)) pss_nil) (pss_one (ps_ret (pe_callTy call_str_int (by rfl) T.gStr (by decide +kernel) (pa_cons (pv 0) pa_nil)))), ?_⟩
    refine ⟨_, rfl, _, rfl, ?_⟩
    rw [eV_isN]
    by_cases hn : n = 0
    · subst hn
      refine iteT ?_
      show Q (.str ("" : Str)) H
      rw [emp_S]
      exact k
    · rw [decide_eq_false hn]
      refine iteF ⟨_, rfl, (n : Int), congrArg (fun z => [z]) (eV_pos (by omega)), ?_, ?_⟩
      · show n.log2 < 1920
        have : n.log2 ≤ n := Nat.log2_le_self n
        omega
      · show Q (.str (Str.ofString (toString ((n : Nat) : Int)))) H
        rw [num_txt (by omega) h9]
        exact k

theorem scColText : FnScope ["number"] ["number"] (C8.fnScope sColText) := C8.fnScope_by (by decide +kernel)
theorem ok_colText {f : Addr} {fd : FuncData} (F : C8.Def K mg "column_text" sColText f fd) (df : fd.defaults = .none) (c3 : C8.Cal P w K mg base 3 "letters_of" spLetters []) : C8.Cal P w K mg base 4 "column_text" spColText [] := by
  refine C8.cal0 F (F.fn.binds df (ps := ["number"]) fun _ _ _ _ _ _ us hl => match us, hl with | [_], _ => rfl) .nil scColText (fun vs H Q E h => ?_) (fun cdv A outer s H vs Q E hr h => ?_)
  · obtain ⟨n, rfl, _⟩ := h
    rfl
  · obtain ⟨n, rfl, h9, k⟩ := h
    refine ⟨_, pss_cons (ps_if (pt_cmp (pc_isN (pv 0))) (pss_one (ps_ret pe_str)) pss_nil) (pss_one (ps_ret (C8.pe_c c3 hr (by decide) (by rfl) (pa_cons (pv 0) pa_nil)))), ?_⟩
    refine ⟨_, rfl, _, rfl, ?_⟩
    rw [eV_isN]
    by_cases hn : n = 0
    · subst hn
      refine iteT ?_
      show Q (.str ("" : Str)) H
      rw [emp_S]
      exact k H (Same.refl H)
    · rw [decide_eq_false hn]
      exact iteF ⟨_, rfl, n, congrArg (fun z => [z]) (eV_pos (by omega)), by omega, h9, k⟩
end
end K7

/-! K7c: str(x) and == of own instances; the methods of a block -/
namespace K7
open PySem L2 SX

/-! ### rules of my own: str(x) by an own __str__, x == y by an own __eq__, a call of a local name -/
def rStrOwn (C : Addr) (sp : Sp) : List V → Hp → VK → Prop := fun xs H Q => ∃ a dx fs, xs = [V.ref a] ∧ H a = some (.ins C dx fs) ∧ sp [.ref a] H (fun z H' => ∃ y, z = .str y ∧ Q z H') C8.E0
def rEqOwn (C : Addr) (sp : Sp) : R2 := fun x y H Q => ∃ a b dx dy fs gs, x = .ref a ∧ y = .ref b ∧ H a = some (.ins C dx fs) ∧ H b = some (.ins C dy gs) ∧ sp [.ref a, .ref b] H Q C8.E0
section
variable {X : Cx} {n k j i : Nat} {C g f : Addr} {fd : FuncData} {ps : List Str} {sp : Sp}
/-- a def is run below the running body -/
theorem run_below {A : Around} {pins : List (Addr × Obj)} {σ : St} {H : Hp} {s : Shared} {Q : VK} {us : List Value} {vs : List V} (F : FnOk X.prog X.w X.K X.mg X.base C8.CX0 n g fd ps sp) (hr : Room n A) (e0 : Env0 X.prog X.w X.K X.mg X.base A X.stack s H) (hb : Binds X.K fd ps [])
    (I : Inv X pins σ H s) (r : Vals vs us) (h : sp vs H Q C8.E0) : wpAny (model X.prog X.w) A (call (.ref g) us) (EP X pins σ Q) X.xe s := by
  have hl : (us ++ []).length = ps.length := by rw [List.append_nil, ← r.length]; exact F.len _ _ _ _ h
  have b := hb s us I.kIn hl
  rw [List.append_nil] at b
  refine wpAny_call (codeAny_mono (F.run A X.stack s H ⟨us, []⟩ us vs Q C8.E0 hr e0 b r h) fun r s' hq => ?_)
  cases r with
  | error e => exact False.elim hq
  | ok fl =>
    cases fl with
    | ret u => exact I.after hq
    | next => exact False.elim hq
    | brk => exact False.elim hq
    | cont => exact False.elim hq
theorem call_strOwn (F : FnOk X.prog X.w X.K X.mg X.base C8.CX0 n g fd ps sp) (hs : PySem.W.findIn X.K (.ref C) "__str__" = some (some (.ref g))) (hf : PySem.W.isFn X.K (.ref g) = true) (hb : Binds X.K fd ps []) (hr : Room (n + 2) X.A) : CallR X (.type "str") (rStrOwn C sp) := by
  intro pins s σ H xs us Q I r h
  obtain ⟨a, dx, fs, rfl, ha, q⟩ := h
  obtain ⟨u, rfl, ru⟩ := r.one
  cases (show u = Value.ref a from ru)
  obtain ⟨mA, J, _⟩ := ins_get I.hok ha
  obtain ⟨od, J, _⟩ := J.look
  have hr2 : Room n X.A.in1.in1 := (show Room (n + 1) X.A.in1 from Room.in1 hr).in1
  refine PySem.W.kso_call hr2.units0 I.kIn J hs hf (wpAny_mono (run_below (us := [.ref a]) (vs := [.ref a]) F hr2 I.env0.in1.in1 hb I (.cons rfl .nil) q) (fun w s' z => ?_) fun _ _ x => x)
  obtain ⟨z', H', I', rz, y, ey, qz⟩ := z
  subst ey
  obtain ⟨t, e⟩ := (show ∃ t, w = Value.str y t from rz)
  cases e
  exact ⟨.str y, H', I', ⟨t, rfl⟩, qz⟩
theorem op_eqOwn (F : FnOk X.prog X.w X.K X.mg X.base C8.CX0 n g fd ps sp) (hs : PySem.W.findIn X.K (.ref C) "__eq__" = some (some (.ref g))) (hf : PySem.W.isFn X.K (.ref g) = true) (hb : Binds X.K fd ps []) (hr : Room n X.A) : OpR X (compareOp .Eq) (rEqOwn C sp) := by
  intro pins s σ H x y v u Q I rx ry h
  obtain ⟨a, b, dx, dy, fs, gs, rfl, rfl, ha, hb', q⟩ := h
  cases (show v = Value.ref a from rx)
  cases (show u = Value.ref b from ry)
  obtain ⟨mA, J, _⟩ := ins_get I.hok ha
  obtain ⟨mB, J', _⟩ := ins_get I.hok hb'
  obtain ⟨od, J, _⟩ := J.look
  obtain ⟨od', J', _⟩ := J'.look
  obtain ⟨m, hF⟩ := I.fr
  show wpAny (model X.prog X.w) X.A (richCompare .Eq (.ref a) (.ref b)) (EP X pins σ Q) X.xe s
  refine PySem.W.cmp_K (op := .Eq) (tb := .ref C) hr.units0 hF I.ok.mod.kin J J'.type (by simp [PySem.W.notFirst]) hs hf ?_
  refine wpAny_mono (run_below (us := [.ref a, .ref b]) (vs := [.ref a, .ref b]) F hr I.env0 hb I (.cons rfl (.cons rfl .nil)) q) (fun w s' z => ?_) fun _ _ x => x
  obtain ⟨z', H', I', rz, qz⟩ := z
  exact SlX.cmpback rz ⟨z', H', I', rz, qz⟩
theorem pe_cL {x : Str} {p pos : Pos} {e : Expr} {es : List Expr} {t : TA} (c : C8.CalAt X.prog X.w X.K X.mg X.base k f sp) (hr : Room j X.A) (hk : k ≤ j) (hN : X.N[i]? = some x) (hv : Vis X.env.scope x) (ha : PA X (e :: es) t)
    (hdb : (x == ("__debug__" : Str)) = false := by decide) (hcd : (x == ("__classdict__" : Str)) = false := by decide)
    (he : starEach (e :: es) X.env = (false, eval e X.env) :: starEach es X.env := by rfl) (hpl : (backTo pos (starEach es X.env)).any (·.1) = false := by rfl) : PE X (.Call (.Name x p) (e :: es) [] pos) (tCallL i f sp [] C8.E0 t) := by
  obtain ⟨fd, ps, F, kp, b⟩ := c.ex
  exact pe_callL F (hr.mono hk) hN hv kp b .nil C8.pass0 ha hdb hcd he hpl
end

/-! ### data of blocks, for == of tuples -/
def dE (n : Nat) : PyData := if n = 0 then .none else .int (n : Int)
theorem dpE {K : PySem.W.Frag} {H : Hp} (n : Nat) : Dp K H (eV n) (dE n) := by
  unfold eV dE
  by_cases h : n = 0
  · rw [if_pos h, if_pos h]; exact .non
  · rw [if_neg h, if_neg h]; exact .int _
def d4 (t l b r : Nat) : PyData := .tuple [.int (t : Int), .int (l : Int), dE b, dE r]
theorem shape4 (t l b r : Nat) : SeqAt.shaped (d4 t l b r) = true := by
  unfold d4 dE
  by_cases h : b = 0 <;> by_cases h' : r = 0 <;> simp only [h, h', if_true, if_false] <;> rfl
theorem eqvE (a b : Nat) : PyData.eqv (dE a) (dE b) = decide (a = b) := by
  unfold dE
  by_cases h : a = 0
  · by_cases h' : b = 0
    · rw [if_pos h, if_pos h', h, h']; simp [PyData.eqv]
    · rw [if_pos h, if_neg h', h, decide_eq_false (by omega)]; simp [PyData.eqv]
  · by_cases h' : b = 0
    · rw [if_neg h, if_pos h', decide_eq_false (by omega)]; simp [PyData.eqv]
    · rw [if_neg h, if_neg h']
      simp only [PyData.eqv]
      rw [Bool.eq_iff_iff, beq_iff_eq, decide_eq_true_iff]
      omega
theorem eqv4 (t l b r t' l' b' r' : Nat) : PyData.eqv (d4 t l b r) (d4 t' l' b' r') = decide (t = t' ∧ l = l' ∧ b = b' ∧ r = r') := by
  unfold d4
  simp only [PyData.eqv, PyData.eqvAll, eqvE, Bool.and_true]
  rw [Bool.eq_iff_iff]
  simp only [Bool.and_eq_true, beq_iff_eq, decide_eq_true_iff]
  omega

/-! ### promises -/
def inE (e x : Nat) : Bool := decide (e = 0) || decide (x ≤ e)
def hasB (t l b r x y : Nat) : Bool := (decide (t ≤ x) && decide (l ≤ y)) && (inE b x && inE r y)
def spByEnds (B fA : Addr) : Sp := fun vs H Q _ => ∃ (a rl cl : Addr) (t l b r : Nat), vs = [.ref a, .ref rl, .ref cl, .ref fA] ∧ BAt B H a t l b r ∧ Ok t l b r ∧
  H rl = some (.lst [.str (S (rT t)), .str (S (rT b))]) ∧ H cl = some (.lst [.str (S (cT l)), .str (S (cT r))]) ∧ Q (.str (S (bT t l b r))) H
def spInit (B : Addr) : Sp := fun vs H Q _ => ∃ (p dx : Addr) (t l b r : Nat), vs = [.ref p, .int (t : Int), .int (l : Int), eV b, eV r] ∧ H p = some (.ins B dx []) ∧ Ok t l b r ∧
  ∀ H' : Hp, BAt B H' p t l b r → (∀ c o, H c = some o → c ≠ p → H' c = some o) → Q .non H'
def spEq (B : Addr) : Sp := fun vs H Q _ => ∃ (a c : Addr) (t l b r t' l' b' r' : Nat), vs = [.ref a, .ref c] ∧ BAt B H a t l b r ∧ BAt B H c t' l' b' r' ∧
  ∀ H', Same H H' → Q (.bl (decide (t = t' ∧ l = l' ∧ b = b' ∧ r = r'))) H'
def spStr (B : Addr) : Sp := fun vs H Q _ => ∃ (a : Addr) (t l b r : Nat), vs = [.ref a] ∧ BAt B H a t l b r ∧ Ok t l b r ∧ ∀ H', Same H H' → Q (.str (S (bT t l b r))) H'
def spHas (B : Addr) : Sp := fun vs H Q _ => ∃ (a c : Addr) (t l b r x y : Nat), vs = [.ref a, .ref c] ∧ BAt B H a t l b r ∧ H c = some (.tup [.int (x : Int), .int (y : Int)]) ∧ 1 ≤ x ∧ 1 ≤ y ∧ ∀ H', Same H H' → Q (.bl (hasB t l b r x y)) H'

theorem rT_len (d : Nat) : (rT d).length ≤ 1 := by
  unfold rT; by_cases h : d = 0
  · rw [if_pos h]; exact Nat.zero_le _
  · rw [if_neg h]; exact Nat.le_refl _
theorem cT_len (d : Nat) : (cT d).length ≤ 1 := by
  unfold cT; by_cases h : d = 0
  · rw [if_pos h]; exact Nat.zero_le _
  · rw [if_neg h]; exact Nat.le_refl _
theorem putF_len (f : Str) (v : V) : ∀ fs : List (Str × V), (putF f v fs).length ≤ fs.length + 1
  | [] => Nat.le_refl _
  | (g, x) :: r => by
    unfold putF
    by_cases h : g = f
    · rw [if_pos h]; exact Nat.le_succ _
    · rw [if_neg h]; exact Nat.succ_le_succ (putF_len f v r)
theorem line10 {n : Nat} (h : n ≤ 10) : n ≤ sizeLine := Nat.le_of_lt (small1000 (by omega))

section
variable {P : Program} {w : World} {K : PySem.W.Frag} {mg : Str → Option Value} {base : Heap} {B : Addr}

theorem scByEnds : FnScope ["block", "rows", "columns", "together", "first"] ["block", "rows", "columns", "together"] (C8.fnScope sByEnds) := C8.fnScope_by (by decide +kernel)
theorem ok_byEnds {f fA : Addr} {fd : FuncData} (F : C8.Def K mg "by_ends" sByEnds f fd) (df : fd.defaults = .none) (T : Txt K mg B) (cR : C8.Cal P w K mg base 1 "is_rows" (spRows B) []) (cC : C8.Cal P w K mg base 1 "is_columns" (spColumns B) [])
    (cA : C8.CalAt P w K mg base 1 fA spAhead) (cS : C8.Met P w K mg base 1 B "size" (spSize B) []) : C8.Cal P w K mg base 2 "by_ends" (spByEnds B fA) [] := by
  refine C8.cal0 F (F.fn.binds df (ps := ["block", "rows", "columns", "together"]) fun _ _ _ _ _ _ us hl => match us, hl with | [_, _, _, _], _ => rfl) .nil scByEnds (fun vs H Q E h => ?_) (fun cdv A outer s H vs Q E hr h => ?_)
  · obtain ⟨a, rl, cl, t, l, b, r, rfl, _⟩ := h
    rfl
  · obtain ⟨a, rl, cl, t, l, b, r, rfl, hB, O, hrl, hcl, k⟩ := h
    refine ⟨_, pss_cons (ps_if (pt_val (C8.pe_c cR hr (by decide) (by rfl) (pa_cons (pv 0) pa_nil)))
        (pss_one (ps_ret (pe_op op_add_str (pe_op op_add_str (pe_ix ix_list (pv 1) pe_int (fun _ _ => rfl)) pe_str) (pe_ix ix_list (pv 1) pe_int (fun _ _ => rfl))))) pss_nil)
      (pss_cons (ps_if (pt_val (C8.pe_c cC hr (by decide) (by rfl) (pa_cons (pv 0) pa_nil)))
        (pss_one (ps_ret (pe_op op_add_str (pe_op op_add_str (pe_ix ix_list (pv 2) pe_int (fun _ _ => rfl)) pe_str) (pe_ix ix_list (pv 2) pe_int (fun _ _ => rfl))))) pss_nil)
      (pss_cons (ps_set (i := 4) scByEnds.nd rfl (Or.inl rfl) (pe_cL (i := 3) cA hr (by decide) rfl (.inl rfl) (pa_cons (pe_ix ix_list (pv 1) pe_int (fun _ _ => rfl)) (pa_cons (pe_ix ix_list (pv 2) pe_int (fun _ _ => rfl)) pa_nil))))
      (pss_cons (ps_if (pt_cmpR op_eq (C8.pe_mt0 cS hr (by decide) (pv 0)) pe_int (nomark _)) (pss_one (ps_ret (pv 4))) pss_nil)
      (pss_one (ps_ret (pe_op op_add_str (pe_op op_add_str (pv 4) pe_str) (pe_cL (i := 3) cA hr (by decide) rfl (.inl rfl) (pa_cons (pe_ix ix_list (pv 1) pe_int (fun _ _ => rfl)) (pa_cons (pe_ix ix_list (pv 2) pe_int (fun _ _ => rfl)) pa_nil))))))))), ?_⟩
    have l1 := rT_len t
    have l2 := rT_len b
    have l3 := cT_len l
    have l4 := cT_len r
    refine ⟨_, rfl, a, t, l, b, r, rfl, hB, isR l b r, rfl, ?_⟩
    cases h1 : isR l b r with
    | true =>
      have e : bT t l b r = rT t ++ 58 :: rT b := if_pos h1
      refine iteT ⟨_, rfl, rl, _, _, _, rfl, rfl, SqL.of hrl, at_of (j := 0) rfl rfl, _, _, rfl, rfl, ?_, _, rfl, rl, _, _, _, rfl, rfl, SqL.of hrl, at_of (j := 1) rfl rfl, _, _, rfl, rfl, ?_, ?_⟩
      · rw [S_len, col_S, S_len]; exact line10 (by simp; omega)
      · rw [col_S, S_cat, S_len, S_len]; exact line10 (by simp; omega)
      · rw [col_S, S_cat, S_cat]
        rw [e] at k
        have e2 : rT t ++ [58] ++ rT b = rT t ++ 58 :: rT b := by rw [List.append_assoc]; rfl
        rw [e2]
        exact k
    | false =>
      refine iteF ⟨_, rfl, a, t, l, b, r, rfl, hB, isC t b r, rfl, ?_⟩
      cases h2 : isC t b r with
      | true =>
        have e : bT t l b r = cT l ++ 58 :: cT r := by
          unfold bT
          rw [if_neg (by rw [h1]; decide), if_pos h2]
        refine iteT ⟨_, rfl, cl, _, _, _, rfl, rfl, SqL.of hcl, at_of (j := 0) rfl rfl, _, _, rfl, rfl, ?_, _, rfl, cl, _, _, _, rfl, rfl, SqL.of hcl, at_of (j := 1) rfl rfl, _, _, rfl, rfl, ?_, ?_⟩
        · rw [S_len, col_S, S_len]; exact line10 (by simp; omega)
        · rw [col_S, S_cat, S_len, S_len]; exact line10 (by simp; omega)
        · rw [col_S, S_cat, S_cat]
          rw [e] at k
          have e2 : cT l ++ [58] ++ cT r = cT l ++ 58 :: cT r := by rw [List.append_assoc]; rfl
          rw [e2]
          exact k
      | false =>
        refine iteF ⟨rfl, _, rfl, rl, _, _, _, rfl, rfl, SqL.of hrl, at_of (j := 0) rfl rfl, _, rfl, cl, _, _, _, rfl, rfl, SqL.of hcl, at_of (j := 0) rfl rfl, rT t, cT l, rfl, by omega, by omega, ?_⟩
        obtain ⟨dx, ha⟩ := id hB
        refine ⟨_, rfl, a, dx, _, rfl, ha, bf_size t l b r, a, t, l, b, r, rfl, hB, O, ?_⟩
        have eS : (szV t l b r = V.int 1) ↔ (b = t ∧ r = l) := by
          unfold szV
          have o1 := O.tb
          have o2 := O.lr
          have o3 := O.t1
          have o4 := O.l1
          by_cases hz : b = 0 ∨ r = 0
          · rw [if_pos hz]
            exact ⟨(fun q => nomatch q), fun q => by omega⟩
          · rw [if_neg hz]
            constructor
            · intro q
              have q2 : ((szN t l b r : Nat) : Int) = 1 := V.int.inj q
              have q3 : szN t l b r = 1 := by omega
              have q4 := Nat.eq_one_of_mul_eq_one_right q3
              have q5 := Nat.eq_one_of_mul_eq_one_left q3
              omega
            · rintro ⟨rfl, rfl⟩
              show V.int ((szN b r b r : Nat) : Int) = V.int 1
              have : szN b r b r = 1 := by unfold szN; rw [Nat.sub_self, Nat.sub_self]
              rw [this]
              rfl
        have hsc : scal (szV t l b r) (V.int 1) = true := by
          unfold szV
          by_cases hz : b = 0 ∨ r = 0
          · rw [if_pos hz]; rfl
          · rw [if_neg hz]; rfl
        refine ⟨hsc, _, rfl, ?_⟩
        by_cases hc : b = t ∧ r = l
        · rw [decide_eq_true (eS.mpr hc)]
          have e : bT t l b r = cT l ++ rT t := by
            unfold bT
            rw [if_neg (by rw [h1]; decide), if_neg (by rw [h2]; decide), if_pos hc]
          rw [e] at k
          exact iteT ⟨_, rfl, k⟩
        · rw [decide_eq_false (fun q => hc (eS.mp q))]
          have e : bT t l b r = (cT l ++ rT t) ++ 58 :: (cT r ++ rT b) := by
            unfold bT
            rw [if_neg (by rw [h1]; decide), if_neg (by rw [h2]; decide), if_neg hc]
          rw [e] at k
          refine iteF ⟨_, rfl, _, _, rfl, rfl, ?_, rfl, _, rfl, rl, _, _, _, rfl, rfl, SqL.of hrl, at_of (j := 1) rfl rfl, _, rfl, cl, _, _, _, rfl, rfl, SqL.of hcl, at_of (j := 1) rfl rfl, rT b, cT r, rfl, by omega, by omega, _, _, rfl, rfl, ?_, ?_⟩
          · rw [S_len, col_S, S_len]; exact line10 (by simp; omega)
          · rw [col_S, S_cat, S_len, S_len]; exact line10 (by simp; omega)
          · rw [col_S, S_cat, S_cat]
            have e2 : cT l ++ rT t ++ [58] ++ (cT r ++ rT b) = (cT l ++ rT t) ++ 58 :: (cT r ++ rT b) := by rw [List.append_assoc (cT l ++ rT t)]; rfl
            rw [e2]
            exact k

theorem scInit : FnScope ["self", "top", "left", "bottom", "right"] ["self", "top", "left", "bottom", "right"] (C8.fnScope sInit) := C8.fnScope_by (by decide +kernel)
theorem ok_init {f : Addr} {fd : FuncData} (F : C8.Fun K "__init__" "Block.__init__" sInit f fd) (T : Txt K mg B) (c2 : C8.Cal P w K mg base 2 "is_count" spCount []) (c3 : C8.Cal P w K mg base 3 "is_end" spEnd []) :
    FnOk P w K mg base C8.CX0 4 f fd ["self", "top", "left", "bottom", "right"] (spInit B) := by
  refine C8.fn0 F scInit (fun vs H Q E h => ?_) (fun cdv A outer s H vs Q E hr h => ?_)
  · obtain ⟨p, dx, t, l, b, r, rfl, _⟩ := h
    rfl
  · obtain ⟨p, dx, t, l, b, r, rfl, hp, O, k⟩ := h
    refine ⟨_, pss_cons (ps_if (PW.pt (pw_or (pt_not (pt_val (C8.pe_c c2 hr (by decide) (by rfl) (pa_cons (pv 1) pa_nil)))) (pw_or (pt_not (pt_val (C8.pe_c c2 hr (by decide) (by rfl) (pa_cons (pv 2) pa_nil))))
        (pw_or (pt_not (pt_val (C8.pe_c c3 hr (by decide) (by rfl) (pa_cons (pv 1) (pa_cons (pv 3) pa_nil))))) (pw_or1 (pt_not (pt_val (C8.pe_c c3 hr (by decide) (by rfl) (pa_cons (pv 2) (pa_cons (pv 4) pa_nil)))))))))) pss_never pss_nil)
      (pss_cons (ps_fld (pv 0) (pv 1) rfl) (pss_cons (ps_fld (pv 0) (pv 2) rfl) (pss_cons (ps_fld (pv 0) (pv 3) rfl) (pss_one (ps_fld (pv 0) (pv 4) rfl))))), ?_⟩
    have o1 := O.t1
    have o2 := O.l1
    refine ⟨_, rfl, _, rfl, true, congrArg V.bl (decide_eq_true (show (1 : Int) ≤ (t : Int) by omega)), iteF ?_⟩
    refine ⟨_, rfl, _, rfl, true, congrArg V.bl (decide_eq_true (show (1 : Int) ≤ (l : Int) by omega)), iteF ?_⟩
    refine ⟨_, rfl, _, rfl, t, b, rfl, O.tb, true, rfl, iteF ?_⟩
    refine ⟨_, rfl, _, rfl, l, r, rfl, O.lr, true, rfl, iteF ?_⟩
    have z1 := putF_len "top" (.int (t : Int)) []
    have z2 := putF_len "left" (.int (l : Int)) (putF "top" (.int (t : Int)) [])
    have z3 := putF_len "bottom" (eV b) (putF "left" (.int (l : Int)) (putF "top" (.int (t : Int)) []))
    have z0 : ([] : List (Str × V)).length = 0 := rfl
    refine ⟨_, rfl, _, rfl, p, B, dx, _, rfl, hp, T.cl, T.nT, by rw [z0]; decide, ?_⟩
    refine ⟨_, rfl, _, rfl, p, B, dx, _, rfl, upd_same, T.cl, T.nL, by omega, ?_⟩
    refine ⟨_, rfl, _, rfl, p, B, dx, _, rfl, upd_same, T.cl, T.nB, by omega, ?_⟩
    refine ⟨_, rfl, _, rfl, p, B, dx, _, rfl, upd_same, T.cl, T.nR, by omega, ?_⟩
    refine k _ ⟨dx, Eq.trans upd_same (congrArg (fun q => some (HO.ins B dx q)) (bf_put t l b r))⟩ fun c o e hc => ?_
    rw [upd_ne hc, upd_ne hc, upd_ne hc, upd_ne hc]
    exact e

theorem scEq : FnScope ["self", "other", "here"] ["self", "other"] (C8.fnScope sEq) := C8.fnScope_by (by decide +kernel)
theorem ok_eq {f : Addr} {fd : FuncData} (F : C8.Fun K "__eq__" "Block.__eq__" sEq f fd) (T : Txt K mg B) : FnOk P w K mg base C8.CX0 1 f fd ["self", "other"] (spEq B) := by
  refine C8.fn0 F scEq (fun vs H Q E h => ?_) (fun cdv A outer s H vs Q E hr h => ?_)
  · obtain ⟨a, c, t, l, b, r, t', l', b', r', rfl, _⟩ := h
    rfl
  · obtain ⟨a, c, t, l, b, r, t', l', b', r', rfl, ⟨dx, ha⟩, ⟨dy, hc⟩, k⟩ := h
    refine ⟨_, pss_cons (ps_if (pt_not (pt_val (pe_callB (C8.call_isC T.insC) (by rfl) T.isInst (by decide +kernel) (pa_cons (pv 1) (pa_cons (pe_glob (v := .ref B) (by rfl) T.gBlock rfl) pa_nil))))) (pss_one (ps_ret pe_bl)) pss_nil)
      (pss_cons (ps_set (i := 2) scEq.nd rfl (Or.inl rfl) (pe_tup (pa_cons (pe_fld (pv 0) rfl) (pa_cons (pe_fld (pv 0) rfl) (pa_cons (pe_fld (pv 0) rfl) (pa_cons (pe_fld (pv 0) rfl) pa_nil))))))
      (pss_one (ps_ret (pe_cmpR (op_eqD hr.units) (pv 2) (pe_tup (pa_cons (pe_fld (pv 1) rfl) (pa_cons (pe_fld (pv 1) rfl) (pa_cons (pe_fld (pv 1) rfl) (pa_cons (pe_fld (pv 1) rfl) pa_nil))))) (nomark _))))), ?_⟩
    refine ⟨_, rfl, c, dy, _, rfl, hc, true, rfl, iteF ?_⟩
    refine ⟨_, rfl, a, B, dx, _, _, rfl, ha, T.cl, T.nT, bf_top t l b r, _, rfl, a, B, dx, _, _, rfl, ha, T.cl, T.nL, bf_left t l b r, _, rfl, a, B, dx, _, _, rfl, ha, T.cl, T.nB, bf_bottom t l b r,
      _, rfl, a, B, dx, _, _, rfl, ha, T.cl, T.nR, bf_right t l b r, (by show 4 ≤ sizeLine; decide), fun p hp => ?_⟩
    have hc1 : upd H p (.tup [.int (t : Int), .int (l : Int), eV b, eV r]) c = some (.ins B dy (bf t' l' b' r')) := by rw [upd_ne (ne_of_none hc hp)]; exact hc
    refine ⟨_, rfl, _, rfl, c, B, dy, _, _, rfl, hc1, T.cl, T.nT, bf_top t' l' b' r', _, rfl, c, B, dy, _, _, rfl, hc1, T.cl, T.nL, bf_left t' l' b' r', _, rfl, c, B, dy, _, _, rfl, hc1, T.cl, T.nB, bf_bottom t' l' b' r',
      _, rfl, c, B, dy, _, _, rfl, hc1, T.cl, T.nR, bf_right t' l' b' r', (by show 4 ≤ sizeLine; decide), fun q hq => ?_⟩
    have hpq : p ≠ q := ne_of_none upd_same hq
    refine ⟨d4 t l b r, d4 t' l' b' r', ?_, ?_, shape4 t l b r, shape4 t' l' b' r', ?_⟩
    · exact .tup (SqT.of (by rw [upd_ne hpq]; exact upd_same)) (.cons (.int _) (.cons (.int _) (.cons (dpE b) (.cons (dpE r) .nil))))
    · exact .tup (SqT.of upd_same) (.cons (.int _) (.cons (.int _) (.cons (dpE b') (.cons (dpE r') .nil))))
    · rw [eqv4]
      exact k _ (same_upd (same_new hp) ((same_new hp).free hq))

theorem scStr : FnScope ["self", "rows", "columns", "number"] ["self"] (C8.fnScope sStr) := C8.fnScope_by (by decide +kernel)
theorem ok_str {f fA : Addr} {fd : FuncData} (F : C8.Fun K "__str__" "Block.__str__" sStr f fd) (T : Txt K mg B) (gA : mg "letters_ahead" = some (.ref fA)) (cR : C8.Cal P w K mg base 1 "row_text" spRowText []) (cC : C8.Cal P w K mg base 4 "column_text" spColText [])
    (cE : C8.Cal P w K mg base 2 "by_ends" (spByEnds B fA) []) : FnOk P w K mg base C8.CX0 5 f fd ["self"] (spStr B) := by
  refine C8.fn0 F scStr (fun vs H Q E h => ?_) (fun cdv A outer s H vs Q E hr h => ?_)
  · obtain ⟨a, t, l, b, r, rfl, _⟩ := h
    rfl
  · obtain ⟨a, t, l, b, r, rfl, hB, O, k⟩ := h
    obtain ⟨dx, ha⟩ := id hB
    refine ⟨_, pss_cons (ps_setLc (i := 1) (own := [("number", 3)]) (g := gName 3) (tt := tYes) rfl scStr.nd rfl rfl (sw_true rfl rfl rfl (by decide +kernel)) (pi_tup (pe_tup (pa_cons (pe_fld (pv 0) rfl) (pa_cons (pe_fld (pv 0) rfl) pa_nil))))
        (blkOk_by (own := [("number", 3)]) (N := ["self", "rows", "columns", "number"]) (sc := C8.fnScope sStr) (by decide +kernel)) (fun _ _ _ _ _ => pg_name (i := 3) scStr.nd rfl (Or.inl rfl)) (fun _ _ _ _ _ => pts_nil)
        (fun _ _ _ _ _ => C8.pe_c cR hr (by decide) (by rfl) (pa_cons (pv 3) pa_nil)))
      (pss_cons (ps_setLc (i := 2) (own := [("number", 3)]) (g := gName 3) (tt := tYes) rfl scStr.nd rfl rfl (sw_true rfl rfl rfl (by decide +kernel)) (pi_tup (pe_tup (pa_cons (pe_fld (pv 0) rfl) (pa_cons (pe_fld (pv 0) rfl) pa_nil))))
        (blkOk_by (own := [("number", 3)]) (N := ["self", "rows", "columns", "number"]) (sc := C8.fnScope sStr) (by decide +kernel)) (fun _ _ _ _ _ => pg_name (i := 3) scStr.nd rfl (Or.inl rfl)) (fun _ _ _ _ _ => pts_nil)
        (fun _ _ _ _ _ => C8.pe_c cC hr (by decide) (by rfl) (pa_cons (pv 3) pa_nil)))
      (pss_one (ps_ret (pe_callTy SkE.call_str_str (by rfl) T.gStr (by decide +kernel) (pa_cons (C8.pe_c cE hr (by decide) (by rfl) (pa_cons (pv 0) (pa_cons (pv 1) (pa_cons (pv 2) (pa_cons (pe_glob (v := .ref fA) (by rfl) gA rfl) pa_nil))))) pa_nil))))), ?_⟩
    -- rows
    refine ⟨_, rfl, a, B, dx, _, _, rfl, ha, T.cl, T.nT, bf_top t l b r, _, rfl, a, B, dx, _, _, rfl, ha, T.cl, T.nB, bf_bottom t l b r, (by show 2 ≤ sizeLine; decide), fun p hp => ?_⟩
    have s1 : Same H (upd H p (.tup [.int (t : Int), eV b])) := same_new hp
    refine ⟨p, rfl, ⟨_, SqT.of upd_same⟩, fun D hD => lc_tup (K := K) (a := p) (xs := [.int (t : Int), eV b]) (fun i H' => Same (upd H p (.tup [.int (t : Int), eV b])) H' ∧ H' D = some (.lst ([V.str (S (rT t)), V.str (S (rT b))].take i))) ⟨same_new hD, upd_same⟩ (fun i H' _ q => .inl (.inl (q.1 _ _ upd_same))) ?_ ?_⟩
    · rintro i v H' hi ⟨s2, e⟩
      have hv : ∃ z : Nat, v = eV z ∧ z ≤ 9 ∧ [V.str (S (rT t)), V.str (S (rT b))].take (i + 1) = [V.str (S (rT t)), V.str (S (rT b))].take i ++ [V.str (S (rT z))] ∧ i < 2 := by
        match i, hi with
        | 0, hi => exact ⟨t, (Option.some.inj hi).symm.trans (eV_pos O.t1).symm, O.t9, rfl, by decide⟩
        | 1, hi => exact ⟨b, (Option.some.inj hi).symm, O.b9, rfl, by decide⟩
      obtain ⟨z, rfl, hz, ez, hi2⟩ := hv
      refine ⟨rfl, _, rfl, z, rfl, hz, _, e, ?_, same_upd s2 hD, ?_⟩
      · exact Nat.lt_of_le_of_lt (List.length_take_le _ _) (small1000 (by omega))
      · rw [upd_same, ez]
    rintro H1 ⟨s2, e1⟩
    have hB1 : BAt B H1 a t l b r := hB.same (s1.trans s2)
    obtain ⟨dx1, ha1⟩ := id hB1
    -- columns
    refine ⟨_, rfl, a, B, dx1, _, _, rfl, ha1, T.cl, T.nL, bf_left t l b r, _, rfl, a, B, dx1, _, _, rfl, ha1, T.cl, T.nR, bf_right t l b r, (by show 2 ≤ sizeLine; decide), fun p2 hp2 => ?_⟩
    have s3 : Same H1 (upd H1 p2 (.tup [.int (l : Int), eV r])) := same_new hp2
    refine ⟨p2, rfl, ⟨_, SqT.of upd_same⟩, fun D2 hD2 => lc_tup (K := K) (a := p2) (xs := [.int (l : Int), eV r]) (fun i H' => Same (upd H1 p2 (.tup [.int (l : Int), eV r])) H' ∧ H' D2 = some (.lst ([V.str (S (cT l)), V.str (S (cT r))].take i))) ⟨same_new hD2, upd_same⟩ (fun i H' _ q => .inl (.inl (q.1 _ _ upd_same))) ?_ ?_⟩
    · rintro i v H' hi ⟨s4, e⟩
      have hv : ∃ z : Nat, v = eV z ∧ z ≤ 9 ∧ [V.str (S (cT l)), V.str (S (cT r))].take (i + 1) = [V.str (S (cT l)), V.str (S (cT r))].take i ++ [V.str (S (cT z))] ∧ i < 2 := by
        match i, hi with
        | 0, hi => exact ⟨l, (Option.some.inj hi).symm.trans (eV_pos O.l1).symm, O.l9, rfl, by decide⟩
        | 1, hi => exact ⟨r, (Option.some.inj hi).symm, O.r9, rfl, by decide⟩
      obtain ⟨z, rfl, hz, ez, hi2⟩ := hv
      refine ⟨rfl, _, rfl, z, rfl, hz, fun H'' s5 => ⟨_, s5 _ _ e, ?_, same_upd (s4.trans s5) hD2, ?_⟩⟩
      · exact Nat.lt_of_le_of_lt (List.length_take_le _ _) (small1000 (by omega))
      · rw [upd_same, ez]
    rintro H2 ⟨s4, e2⟩
    have s5 : Same H1 H2 := s3.trans s4
    refine ⟨_, rfl, _, rfl, _, rfl, a, D, D2, t, l, b, r, rfl, hB1.same s5, O, s5 _ _ e1, e2, _, rfl, k H2 ((s1.trans s2).trans s5)⟩

theorem scHas : FnScope ["self", "cell", "row", "column"] ["self", "cell"] (C8.fnScope sHas) := C8.fnScope_by (by decide +kernel)
theorem ok_has {f : Addr} {fd : FuncData} (F : C8.Fun K "has" "Block.has" sHas f fd) (M : Meth K B "has" f) (df : fd.defaults = .none) (T : Txt K mg B) (c4 : C8.Cal P w K mg base 4 "checked_cell" spChecked []) : C8.Met P w K mg base 5 B "has" (spHas B) [] := by
  refine C8.met0 T.cl M F (F.binds df (ps := ["self", "cell"]) fun _ _ _ _ _ _ us hl => match us, hl with | [_, _], _ => rfl) scHas (fun vs H Q E h => ?_) (fun cdv A outer s H vs Q E hr h => ?_)
  · obtain ⟨a, c, t, l, b, r, x, y, rfl, _⟩ := h
    rfl
  · obtain ⟨a, c, t, l, b, r, x, y, rfl, hB, hc, hx, hy, k⟩ := h
    refine ⟨_, pss_cons (ps_expr (C8.pe_c c4 hr (by decide) (by rfl) (pa_cons (pv 1) pa_nil)))
      (pss_cons (ps_asg (pv 1) (pg_tup (by rfl) (pgs_cons (pg_name (i := 2) scHas.nd rfl (Or.inl rfl)) (pgs_cons (pg_name (i := 3) scHas.nd rfl (Or.inl rfl)) pgs_nil))))
      (pss_cons (ps_if (PW.pt (pw_or (pt_cmp (pc_lt (pv 2) (pe_fld (pv 0) rfl))) (pw_or1 (pt_cmp (pc_lt (pv 3) (pe_fld (pv 0) rfl)))))) (pss_one (ps_ret pe_bl)) pss_nil)
      (pss_one (ps_ret (pe_and (pe_or (pe_cmp (pc_isN (pe_fld (pv 0) rfl)) rfl) (pe_one (pe_cmp (pc_le (pv 2) (pe_fld (pv 0) rfl)) rfl))) (pe_one (pe_or (pe_cmp (pc_isN (pe_fld (pv 0) rfl)) rfl) (pe_one (pe_cmp (pc_le (pv 3) (pe_fld (pv 0) rfl)) rfl))))))))), ?_⟩
    refine ⟨_, rfl, c, (x : Int), (y : Int), rfl, hc, by omega, by omega, fun H1 s1 => ?_⟩
    obtain ⟨dx, ha⟩ := hB.same s1
    have k1 := k H1 s1
    refine ⟨_, rfl, c, _, rfl, SqT.of (s1 _ _ hc), rfl, _, _, rfl, _, _, rfl, rfl, ?_⟩
    refine ⟨_, rfl, _, rfl, a, B, dx, _, _, rfl, ha, T.cl, T.nT, bf_top t l b r, _, _, rfl, rfl, !decide (t ≤ x), congrArg V.bl (show decide ((x : Int) < (t : Int)) = !decide (t ≤ x) by rw [Bool.eq_iff_iff]; simp), ?_⟩
    cases h1 : decide (t ≤ x) with
    | false =>
      have e : hasB t l b r x y = false := by unfold hasB; rw [h1]; rfl
      rw [e] at k1
      exact iteT (iteT k1)
    | true =>
      refine iteF ⟨_, rfl, _, rfl, a, B, dx, _, _, rfl, ha, T.cl, T.nL, bf_left t l b r, _, _, rfl, rfl, !decide (l ≤ y), congrArg V.bl (show decide ((y : Int) < (l : Int)) = !decide (l ≤ y) by rw [Bool.eq_iff_iff]; simp), ?_⟩
      cases h2 : decide (l ≤ y) with
      | false =>
        have e : hasB t l b r x y = false := by unfold hasB; rw [h1, h2]; rfl
        rw [e] at k1
        exact iteT k1
      | true =>
        have e : hasB t l b r x y = (inE b x && inE r y) := by unfold hasB; rw [h1, h2]; rfl
        rw [e] at k1
        refine iteF ?_
        -- both upper ends
        have tail : inE b x = true → tOrV (tIsN (tFld K (tVar 0) "right")) (tLe (tVar 3) (tFld K (tVar 0) "right")) [some (.ref a), some (.ref c), some (.int (x : Int)), some (.int (y : Int))] H1 Q := fun hb => by
          rw [hb] at k1
          refine ⟨_, rfl, a, B, dx, _, _, rfl, ha, T.cl, T.nR, bf_right t l b r, decide (r = 0), congrArg V.bl (eV_isN r), ?_⟩
          cases h3 : decide (r = 0) with
          | true =>
            have e3 : inE r y = true := by unfold inE; rw [h3]; rfl
            rw [e3] at k1
            exact iteT k1
          | false =>
            have e3 : inE r y = decide (y ≤ r) := by unfold inE; rw [h3]; rfl
            rw [e3] at k1
            have hr1 : 1 ≤ r := by have := of_decide_eq_false h3; omega
            have hr2 := bf_right t l b r
            rw [eV_pos hr1] at hr2
            refine iteF ⟨_, rfl, _, rfl, a, B, dx, _, _, rfl, ha, T.cl, T.nR, hr2, _, _, rfl, rfl, ?_⟩
            have e4 : decide ((y : Int) ≤ (r : Int)) = decide (y ≤ r) := by rw [Bool.eq_iff_iff]; simp
            show Q (.bl (decide ((y : Int) ≤ (r : Int)))) H1
            rw [e4]
            exact k1
        refine ⟨_, rfl, a, B, dx, _, _, rfl, ha, T.cl, T.nB, bf_bottom t l b r, decide (b = 0), congrArg V.bl (eV_isN b), ?_⟩
        cases h3 : decide (b = 0) with
        | true =>
          exact iteT ⟨true, rfl, iteT (tail (by unfold inE; rw [h3]; rfl))⟩
        | false =>
          have e3 : inE b x = decide (x ≤ b) := by unfold inE; rw [h3]; rfl
          have hb1 : 1 ≤ b := by have := of_decide_eq_false h3; omega
          have hb2 := bf_bottom t l b r
          rw [eV_pos hb1] at hb2
          refine iteF ⟨_, rfl, _, rfl, a, B, dx, _, _, rfl, ha, T.cl, T.nB, hb2, _, _, rfl, rfl, decide (x ≤ b), congrArg V.bl (show decide ((x : Int) ≤ (b : Int)) = decide (x ≤ b) by rw [Bool.eq_iff_iff]; simp), ?_⟩
          cases h4 : decide (x ≤ b) with
          | true => exact iteT (tail (by rw [e3, h4]))
          | false =>
            rw [e3, h4] at k1
            exact iteF k1
end
end K7

/-! K7d: texts read: count_of, parted, block_of -/
namespace K7
open PySem L2 SX

theorem word_lstrip {c d : Nat} (hc : c ≤ 9) (hd : d ≤ 9) : Txt.lstripChars (S (cT c ++ rT d)) LET = S (rT d) := by
  have h : ∀ c, c < 10 → ∀ d, d < 10 → Txt.lstripChars (S (cT c ++ rT d)) LET = S (rT d) := by decide +kernel
  exact h c (by omega) d (by omega)
theorem no58 {c d : Nat} (hc : c ≤ 9) (hd : d ≤ 9) : 58 ∉ cT c ++ rT d := by
  have h : ∀ c, c < 10 → ∀ d, d < 10 → 58 ∉ cT c ++ rT d := by decide +kernel
  exact h c (by omega) d (by omega)
theorem word_len {c d : Nat} : (cT c ++ rT d).length ≤ 2 := by
  have h1 := cT_len c
  have h2 := rT_len d
  rw [List.length_append]
  omega
theorem rT_nil (d : Nat) : (S (rT d) = ("" : Str)) ↔ d = 0 := by
  rw [emp_S]
  constructor
  · intro h
    by_cases e : d = 0
    · exact e
    · have := S_inj h
      unfold rT at this
      rw [if_neg e] at this
      cases this
  · rintro rfl; rfl
theorem cT_nil (d : Nat) : (S (cT d) = ("" : Str)) ↔ d = 0 := by
  rw [emp_S]
  constructor
  · intro h
    by_cases e : d = 0
    · exact e
    · have := S_inj h
      unfold cT at this
      rw [if_neg e] at this
      cases this
  · rintro rfl; rfl
def or1 (n : Nat) : Nat := if n = 0 then 1 else n
/-- the text of a block in its parts -/
theorem bT_parts {t l b r : Nat} (O : Ok t l b r) : ∃ c d : Nat, c ≤ 9 ∧ d ≤ 9 ∧ or1 d = t ∧ or1 c = l ∧
    (bT t l b r = (cT c ++ rT d) ++ ([58] ++ (cT r ++ rT b)) ∨ (bT t l b r = cT c ++ rT d ∧ b = d ∧ r = c)) := by
  have o1 := O.t1
  have o2 := O.l1
  have ot : or1 t = t := if_neg (by omega)
  have ol : or1 l = l := if_neg (by omega)
  unfold bT
  cases h1 : isR l b r with
  | true =>
    rw [if_pos rfl]
    unfold isR at h1
    simp only [Bool.and_eq_true, decide_eq_true_iff] at h1
    obtain ⟨h2, h3, _⟩ := h1
    subst h2; subst h3
    exact ⟨0, t, by omega, O.t9, ot, rfl, .inl rfl⟩
  | false =>
    rw [if_neg Bool.false_ne_true]
    cases h2 : isC t b r with
    | true =>
      rw [if_pos rfl]
      unfold isC at h2
      simp only [Bool.and_eq_true, decide_eq_true_iff] at h2
      obtain ⟨h3, h4, _⟩ := h2
      subst h3; subst h4
      refine ⟨l, 0, O.l9, by omega, rfl, ol, .inl ?_⟩
      show cT l ++ 58 :: cT r = cT l ++ [] ++ ([58] ++ (cT r ++ []))
      rw [List.append_nil, List.append_nil]
      rfl
    | false =>
      rw [if_neg Bool.false_ne_true]
      by_cases h3 : b = t ∧ r = l
      · rw [if_pos h3]
        exact ⟨l, t, O.l9, O.t9, ot, ol, .inr ⟨rfl, h3.1, h3.2⟩⟩
      · rw [if_neg h3]
        exact ⟨l, t, O.l9, O.t9, ot, ol, .inl rfl⟩
theorem bT_len (t l b r : Nat) : (bT t l b r).length ≤ 5 := by
  have l1 := rT_len t
  have l2 := rT_len b
  have l3 := cT_len l
  have l4 := cT_len r
  unfold bT
  split
  · simp; omega
  · split
    · simp; omega
    · split
      · simp; omega
      · simp; omega

def spCountOf : Sp := fun vs H Q _ => ∃ n : Nat, vs = [.str (S [48 + n])] ∧ 1 ≤ n ∧ n ≤ 9 ∧ Q (.int (n : Int)) H
def spParted : Sp := fun vs H Q _ => ∃ c d : Nat, vs = [.str (S (cT c ++ rT d))] ∧ c ≤ 9 ∧ d ≤ 9 ∧ ∀ p H', Same H H' → H' p = some (.tup [eV d, eV c]) → Q (.ref p) H'
def spBlockOf (B : Addr) : Sp := fun vs H Q _ => ∃ t l b r : Nat, vs = [.str (S (bT t l b r))] ∧ Ok t l b r ∧ ∀ p H', Same H H' → BAt B H' p t l b r → Q (.ref p) H'

theorem truE {K : PySem.W.Frag} {H : Hp} (n : Nat) : TruV K (eV n) H (!decide (n = 0)) := by
  by_cases h : n = 0
  · subst h; exact rfl
  · rw [eV_pos (by omega)]
    show (!decide (n = 0)) = ((n : Int) != 0)
    rw [Bool.eq_iff_iff]
    simp

section
variable {P : Program} {w : World} {K : PySem.W.Frag} {mg : Str → Option Value} {base : Heap} {B : Addr}

theorem scCountOf : FnScope ["figures"] ["figures"] (C8.fnScope sCountOf) := C8.fnScope_by (by decide +kernel)
theorem ok_countOf {f : Addr} {fd : FuncData} (F : C8.Def K mg "count_of" sCountOf f fd) (df : fd.defaults = .none) (T : Txt K mg B) : C8.Cal P w K mg base 1 "count_of" spCountOf [] := by
  refine C8.cal0 F (F.fn.binds df (ps := ["figures"]) fun _ _ _ _ _ _ us hl => match us, hl with | [_], _ => rfl) .nil scCountOf (fun vs H Q E h => ?_) (fun cdv A outer s H vs Q E hr h => ?_)
  · obtain ⟨n, rfl, _⟩ := h
    rfl
  · obtain ⟨n, rfl, h1, h9, k⟩ := h
    refine ⟨_, pss_cons (ps_if (PW.pt (pw_or (pt_cmpR op_ne (pe_bm PySem.F.plainAttrs_str PySem.F.slot_str_strip PySem.F.type_str_strip mt_stripChars (pv 0) (pa_cons (C8.pe_gc (by rfl) T.figures) pa_nil)) pe_str (nomark _))
        (pw_or1 (pt_not (pt_chain op_le op_le pe_int (pe_callB call_len_str (by rfl) T.gLen (by decide +kernel) (pa_cons (pv 0) pa_nil)) (C8.pe_gc (by rfl) T.mostF)))))) pss_never pss_nil)
      (pss_one (ps_ret (pe_callTy call_int_str (by rfl) T.gInt (by decide +kernel) (pa_cons (pv 0) pa_nil)))), ?_⟩
    refine ⟨_, rfl, rfl, _, _, rfl, rfl, (by show 1 ≤ sizeLine; decide), rfl, _, rfl, iteNS (congrArg V.str (fig_strip h1 h9)) ?_⟩
    refine ⟨_, rfl, _, rfl, (by show 1 ≤ sizeLine; decide), _, _, rfl, rfl, true, congrArg V.bl (decide_eq_true (show (1 : Int) ≤ ((1 : Nat) : Int) by decide)), ?_⟩
    refine ⟨_, _, rfl, rfl, true, congrArg V.bl (decide_eq_true (show ((1 : Nat) : Int) ≤ (12 : Int) by decide)), iteF ?_⟩
    exact ⟨_, rfl, _, _, rfl, fig_int h1 h9, (by show 1 ≤ 640; decide), k⟩

theorem scParted : FnScope ["word", "figures", "letters", "row", "column"] ["word"] (C8.fnScope sParted) := C8.fnScope_by (by decide +kernel)
theorem ok_parted {f : Addr} {fd : FuncData} (F : C8.Def K mg "parted" sParted f fd) (df : fd.defaults = .none) (T : Txt K mg B) (cC : C8.Cal P w K mg base 1 "count_of" spCountOf []) (cN : C8.Cal P w K mg base 1 "number_of" spNumber []) : C8.Cal P w K mg base 2 "parted" spParted [] := by
  refine C8.cal0 F (F.fn.binds df (ps := ["word"]) fun _ _ _ _ _ _ us hl => match us, hl with | [_], _ => rfl) .nil scParted (fun vs H Q E h => ?_) (fun cdv A outer s H vs Q E hr h => ?_)
  · obtain ⟨c, d, rfl, _⟩ := h
    rfl
  · obtain ⟨c, d, rfl, hc, hd, k⟩ := h
    refine ⟨_, pss_cons (ps_set (i := 1) scParted.nd rfl (Or.inl rfl) (pe_bm PySem.F.plainAttrs_str PySem.F.slot_str_lstrip PySem.F.type_str_lstrip mt_lstripChars (pv 0) (pa_cons (C8.pe_gc (by rfl) T.letters) pa_nil)))
      (pss_cons (ps_set (i := 2) scParted.nd rfl (Or.inl rfl) (pe_slice C8.sl_txt (pv 0) po_none (po_some (pe_op op_sub (pe_callB call_len_str (by rfl) T.gLen (by decide +kernel) (pa_cons (pv 0) pa_nil)) (pe_callB call_len_str (by rfl) T.gLen (by decide +kernel) (pa_cons (pv 1) pa_nil))))))
      (pss_cons (ps_set (i := 3) scParted.nd rfl (Or.inl rfl) pe_non)
      (pss_cons (ps_set (i := 4) scParted.nd rfl (Or.inl rfl) pe_non)
      (C8.pss_cut (ps_if (pt_cmpR op_ne (pv 1) pe_str (nomark _)) (pss_one (ps_set (i := 3) scParted.nd rfl (Or.inl rfl) (C8.pe_c cC hr (by decide) (by rfl) (pa_cons (pv 1) pa_nil)))) pss_nil)
      (C8.pss_cut (ps_if (pt_cmpR op_ne (pv 2) pe_str (nomark _)) (pss_one (ps_set (i := 4) scParted.nd rfl (Or.inl rfl) (C8.pe_c cN hr (by decide) (by rfl) (pa_cons (pv 2) pa_nil)))) pss_nil)
      (pss_one (ps_ret (pe_tup (pa_cons (pv 3) (pa_cons (pv 4) pa_nil)))))))))), ?_⟩
    have e1 := word_lstrip hc hd
    have hl : (S (cT c ++ rT d)).length ≤ sizeLine := by rw [S_len]; exact line10 (by have := @word_len c d; omega)
    have hl2 : (S (rT d)).length ≤ sizeLine := by rw [S_len]; exact line10 (by have := rT_len d; omega)
    refine ⟨_, rfl, rfl, _, _, rfl, rfl, hl, ?_⟩
    refine ⟨_, rfl, _, rfl, _, rfl, hl, _, rfl, _, congrArg (fun z => [V.str z]) e1, hl2, _, _, rfl, rfl, _, rfl, _, rfl, hl, ?_⟩
    have e2 : Txt.slice (S (cT c ++ rT d)) none (some (((S (cT c ++ rT d)).length : Int) - ((S (rT d)).length : Int))) = S (cT c) := by
      refine to_app (cT c) (rT d) ?_
      rw [S_len, S_len, List.length_append]
      omega
    have es : (((((L2.start ["word", "figures", "letters", "row", "column"] [V.str (S (cT c ++ rT d))]).set 1 (some (V.str (Txt.lstripChars (S (cT c ++ rT d)) LET)))).set 2 (some (V.str (Txt.slice (S (cT c ++ rT d)) none (some (((S (cT c ++ rT d)).length : Int) - ((S (rT d)).length : Int))))))).set 3 (some V.non)).set 4 (some V.non))
        = [some (V.str (S (cT c ++ rT d))), some (V.str (S (rT d))), some (V.str (S (cT c))), some V.non, some V.non] := by
      rw [e1, e2]; rfl
    refine ⟨fun σ' H' => H = H' ∧ σ' = [some (V.str (S (cT c ++ rT d))), some (V.str (S (rT d))), some (V.str (S (cT c))), some (eV d), some V.non], ?_, ?_⟩
    · refine ⟨V.str (S (rT d)), congrArg (fun z => some (some (V.str z))) e1, rfl, _, rfl, ?_⟩
      by_cases h0 : d = 0
      · refine iteNS (congrArg V.str ((rT_nil d).mpr h0)) ?_
        subst h0
        exact ⟨rfl, es⟩
      · rw [decide_eq_false (fun q => h0 ((rT_nil d).mp (V.str.inj q)))]
        refine iteT ⟨V.str (S (rT d)), congrArg (fun z => some (some (V.str z))) e1, d, ?_, by omega, hd, rfl, ?_⟩
        · show [V.str (S (rT d))] = _
          rw [show rT d = [48 + d] from if_neg h0]
        · show List.set _ 3 _ = _
          rw [es, eV_pos (show 1 ≤ d by omega)]
          rfl
    · rintro σ' H' ⟨rfl, rfl⟩
      refine ⟨fun σ' H' => H = H' ∧ σ' = [some (V.str (S (cT c ++ rT d))), some (V.str (S (rT d))), some (V.str (S (cT c))), some (eV d), some (eV c)], ?_, ?_⟩
      · refine ⟨_, rfl, rfl, _, rfl, ?_⟩
        by_cases h0 : c = 0
        · refine iteNS (congrArg V.str ((cT_nil c).mpr h0)) ?_
          subst h0
          exact ⟨rfl, rfl⟩
        · rw [decide_eq_false (fun q => h0 ((cT_nil c).mp (V.str.inj q)))]
          refine iteT ⟨_, rfl, c, ?_, by omega, hc, rfl, ?_⟩
          · show [V.str (S (cT c))] = _
            rw [show cT c = [64 + c] from if_neg h0]
          · rw [eV_pos (show 1 ≤ c by omega)]
            rfl
      · rintro σ' H' ⟨rfl, rfl⟩
        exact ⟨_, rfl, _, rfl, (by show 2 ≤ sizeLine; decide), fun p hp => k p _ (same_new hp) upd_same⟩

theorem scBlockOf : FnScope ["text", "first", "colon", "last", "top", "left", "bottom", "right", "block"] ["text"] (C8.fnScope sBlockOf) := C8.fnScope_by (by decide +kernel)
theorem ok_blockOf {f fS : Addr} {fd fdS : FuncData} (F : C8.Def K mg "block_of" sBlockOf f fd) (df : fd.defaults = .none) (T : Txt K mg B) (cP : C8.Cal P w K mg base 2 "parted" spParted []) (mB : C8.Mak P w K mg base 4 "Block" B (spInit B) [])
    (FS : FnOk P w K mg base C8.CX0 5 fS fdS ["self"] (spStr B)) (bS : Binds K fdS ["self"] []) (aS : PySem.W.findIn K (.ref B) "__str__" = some (some (.ref fS))) (iS : PySem.W.isFn K (.ref fS) = true) : C8.Cal P w K mg base 8 "block_of" (spBlockOf B) [] := by
  refine C8.cal0 F (F.fn.binds df (ps := ["text"]) fun _ _ _ _ _ _ us hl => match us, hl with | [_], _ => rfl) .nil scBlockOf (fun vs H Q E h => ?_) (fun cdv A outer s H vs Q E hr h => ?_)
  · obtain ⟨t, l, b, r, rfl, _⟩ := h
    rfl
  · obtain ⟨t, l, b, r, rfl, O, k⟩ := h
    refine ⟨_, pss_cons (ps_if (pt_not (pt_val (pe_callB call_isi (by rfl) T.isInst (by decide +kernel) (pa_cons (pv 0) (pa_cons (pe_bltn (v := .ty "str") (u := .type "str") (by rfl) T.gStr (by decide +kernel) rfl) pa_nil))))) pss_never pss_nil)
      (C8.pss_cut (ps_asg (pe_bm PySem.F.plainAttrs_str PySem.F.slot_str_partition PySem.F.type_str_partition mt_partition (pv 0) (pa_cons pe_str pa_nil))
        (pg_tup (by rfl) (pgs_cons (pg_name (i := 1) scBlockOf.nd rfl (Or.inl rfl)) (pgs_cons (pg_name (i := 2) scBlockOf.nd rfl (Or.inl rfl)) (pgs_cons (pg_name (i := 3) scBlockOf.nd rfl (Or.inl rfl)) pgs_nil)))))
      (C8.pss_cut (ps_if (pt_cmpR op_eq (pv 2) pe_str (nomark _)) (pss_one (ps_set (i := 3) scBlockOf.nd rfl (Or.inl rfl) (pv 1))) pss_nil)
      (pss_cons (ps_try_thru0 (pss_cons (ps_asg (C8.pe_c cP hr (by decide) (by rfl) (pa_cons (pv 1) pa_nil)) (pg_tup (by rfl) (pgs_cons (pg_name (i := 4) scBlockOf.nd rfl (Or.inl rfl)) (pgs_cons (pg_name (i := 5) scBlockOf.nd rfl (Or.inl rfl)) pgs_nil))))
        (pss_cons (ps_asg (C8.pe_c cP hr (by decide) (by rfl) (pa_cons (pv 3) pa_nil)) (pg_tup (by rfl) (pgs_cons (pg_name (i := 6) scBlockOf.nd rfl (Or.inl rfl)) (pgs_cons (pg_name (i := 7) scBlockOf.nd rfl (Or.inl rfl)) pgs_nil))))
        (pss_one (ps_set (i := 8) scBlockOf.nd rfl (Or.inl rfl) (C8.pe_mk mB hr (by decide) (by rfl) (pa_cons (pe_orT (pv 4) (pe_one pe_int)) (pa_cons (pe_orT (pv 5) (pe_one pe_int)) (pa_cons (pv 6) (pa_cons (pv 7) pa_nil))))))))))
      (pss_cons (ps_if (pt_cmpR op_ne (pe_callTy (call_strOwn FS aS iS bS hr) (by rfl) T.gStr (by decide +kernel) (pa_cons (pv 8) pa_nil)) (pv 0) (nomark _)) pss_never pss_nil)
      (pss_one (ps_ret (pv 8))))))), ?_⟩
    obtain ⟨c, d, hc, hd, et, el, hparts⟩ := bT_parts O
    refine ⟨_, rfl, _, _, _, _, true, rfl, .ty _, .base (.str _), kit_ty (by decide +kernel), true, rfl, iteF ?_⟩
    -- the three parts
    have hM : ∃ m e3 : List Nat, Txt.partition (S (bT t l b r)) (":" : Str) = (S (cT c ++ rT d), S m, S e3) ∧ ((m = [] ∧ b = d ∧ r = c) ∨ (m = [58] ∧ e3 = cT r ++ rT b)) := by
      rw [col_S]
      rcases hparts with h | ⟨h, hb, hr'⟩
      · exact ⟨[58], cT r ++ rT b, by rw [h]; exact partition_some (by simp) (par_head (sep := []) _ (no58 hc hd)), .inr ⟨rfl, rfl⟩⟩
      · exact ⟨[], [], by rw [h]; exact partition_none (by simp) (par_head_none (no58 hc hd)), .inl ⟨rfl, hb, hr'⟩⟩
    obtain ⟨m, e3, ep, hme⟩ := hM
    refine ⟨fun σ' H' => Same H H' ∧ σ' = [some (V.str (S (bT t l b r))), some (V.str (S (cT c ++ rT d))), some (V.str (S m)), some (V.str (S e3)), none, none, none, none, none], ?_, ?_⟩
    · refine ⟨_, rfl, rfl, _, _, rfl, rfl, by decide +kernel, by rw [S_len]; exact line10 (by have := bT_len t l b r; omega), fun p hp => ⟨p, _, rfl, SqT.of upd_same, rfl, _, _, rfl, _, _, rfl, _, _, rfl, rfl, same_new hp, ?_⟩⟩
      rw [ep]
      rfl
    rintro σ1 H1 ⟨s1, rfl⟩
    refine ⟨fun σ' H' => H1 = H' ∧ σ' = [some (V.str (S (bT t l b r))), some (V.str (S (cT c ++ rT d))), some (V.str (S m)), some (V.str (S (cT r ++ rT b))), none, none, none, none, none], ?_, ?_⟩
    · refine ⟨_, rfl, rfl, _, rfl, ?_⟩
      rcases hme with ⟨rfl, hb, hr'⟩ | ⟨rfl, rfl⟩
      · rw [decide_eq_true (congrArg V.str emp_S.symm)]
        refine iteT ⟨_, rfl, rfl, ?_⟩
        subst hb; subst hr'
        rfl
      · rw [decide_eq_false (by rw [emp_S]; exact fun q => by cases S_inj (V.str.inj q))]
        exact iteF ⟨rfl, rfl⟩
    rintro σ2 H2 ⟨rfl, rfl⟩
    -- the try
    refine ⟨_, rfl, c, d, rfl, hc, hd, fun p Ha sa ea => ⟨p, _, rfl, SqT.of ea, rfl, _, _, rfl, _, _, rfl, rfl, ?_⟩⟩
    refine ⟨_, rfl, r, b, rfl, O.r9, O.b9, fun q Hb sb eb => ⟨q, _, rfl, SqT.of eb, rfl, _, _, rfl, _, _, rfl, rfl, ?_⟩⟩
    have mk : ∀ Hc : Hp, Same H1 Hc → ∀ x dx : Addr, Hc x = none → Hc dx = none → dx ≠ x → ∀ H4 : Hp, BAt B H4 x t l b r → (∀ z o, (upd (upd Hc dx (.own x)) x (.ins B dx [])) z = some o → z ≠ x → H4 z = some o) → Same H1 H4 := fun Hc sc x dx nx ndx nex H4 _ kp => sc.trans (Same.made nx ndx kp)
    have z1 := O.t1
    have z2 := O.l1
    have tr1 : ∀ (R : V → Hp → Prop) (Hc : Hp), R (.int (t : Int)) Hc → tOrT K (tVar 4) (tC (.int 1)) [some (V.str (S (bT t l b r))), some (V.str (S (cT c ++ rT d))), some (V.str (S m)), some (V.str (S (cT r ++ rT b))), some (eV d), some (eV c), some (eV b), some (eV r), none] Hc R := fun R Hc hR => by
      refine ⟨_, rfl, _, truE d, ?_⟩
      by_cases h0 : d = 0
      · subst h0
        refine iteF ?_
        have : t = 1 := et.symm
        subst this
        exact hR
      · rw [decide_eq_false h0]
        refine iteT ?_
        have : d = t := by rw [← et]; exact (if_neg h0).symm
        subst this
        rw [eV_pos z1]
        exact hR
    have tr2 : ∀ (R : V → Hp → Prop) (Hc : Hp), R (.int (l : Int)) Hc → tOrT K (tVar 5) (tC (.int 1)) [some (V.str (S (bT t l b r))), some (V.str (S (cT c ++ rT d))), some (V.str (S m)), some (V.str (S (cT r ++ rT b))), some (eV d), some (eV c), some (eV b), some (eV r), none] Hc R := fun R Hc hR => by
      refine ⟨_, rfl, _, truE c, ?_⟩
      by_cases h0 : c = 0
      · subst h0
        refine iteF ?_
        have : l = 1 := el.symm
        subst this
        exact hR
      · rw [decide_eq_false h0]
        refine iteT ?_
        have : c = l := by rw [← el]; exact (if_neg h0).symm
        subst this
        rw [eV_pos z2]
        exact hR
    refine tr1 _ _ (tr2 _ _ ⟨_, rfl, _, rfl, fun x dx nx ndx nex => ⟨x, dx, t, l, b, r, rfl, upd_same, O, fun H4 hB4 kp => ⟨rfl, ?_⟩⟩⟩)
    have s4 : Same H1 H4 := mk Hb (Same.trans sa sb) x dx nx ndx nex H4 hB4 kp
    obtain ⟨d4, h4⟩ := id hB4
    refine ⟨_, rfl, x, d4, _, rfl, h4, x, t, l, b, r, rfl, hB4, O, fun H5 s5 => ⟨_, rfl, _, rfl, rfl, _, rfl, iteNS rfl ⟨_, rfl, k x H5 ((s1.trans s4).trans s5) (hB4.same s5)⟩⟩⟩
end
end K7

/-! K7e: the law's draws -/
namespace K7
open PySem L2 SX

def WellAt (H : Hp) (p : Addr) : Prop := ∃ a b c : Int, H p = some (.lst [.int a, .int b, .int c])
/-- all that was tracked is as it was, but what stands at p -/
def But (H H' : Hp) (p : Addr) : Prop := ∀ b o, H b = some o → b ≠ p → H' b = some o
theorem But.refl (H : Hp) (p : Addr) : But H H p := fun _ _ e _ => e
theorem But.trans {H H1 H2 : Hp} {p : Addr} (a : But H H1 p) (b : But H1 H2 p) : But H H2 p := fun c o e n => b c o (a c o e n) n
theorem But.upd {H H1 : Hp} {p : Addr} {o : HO} (a : But H H1 p) : But H (upd H1 p o) p := fun c u e n => by rw [upd_ne n]; exact a c u e n
theorem But.new {H H1 : Hp} {p q : Addr} {o : HO} (a : But H H1 p) (h : H1 q = none) : But H (L2.upd H1 q o) p := fun c u e n => by
  have e1 := a c u e n
  rw [upd_ne (ne_of_none e1 h)]; exact e1
theorem But.same {H H1 : Hp} {p : Addr} (a : But H H1 p) (h : H p = none) : Same H H1 := fun c u e => a c u e (ne_of_none e h)
theorem Same.but {H H1 : Hp} {p : Addr} (a : Same H H1) : But H H1 p := fun c u e _ => a c u e
theorem WellAt.new {H : Hp} {p q : Addr} {o : HO} (a : WellAt H p) (h : H q = none) : WellAt (upd H q o) p := by
  obtain ⟨x, y, z, e⟩ := a
  exact ⟨x, y, z, by rw [upd_ne (ne_of_none e h)]; exact e⟩
theorem WellAt.same {H H' : Hp} {p : Addr} (a : WellAt H p) (s : Same H H') : WellAt H' p := by
  obtain ⟨x, y, z, e⟩ := a
  exact ⟨x, y, z, s _ _ e⟩
theorem But.updN {H H1 : Hp} {p q : Addr} {o : HO} (a : But H H1 p) (h : H q = none) : But H (L2.upd H1 q o) p := fun c u e n => by
  rw [upd_ne (ne_of_none e h)]; exact a c u e n
theorem WellAt.upd {H : Hp} {p q : Addr} {o : HO} (a : WellAt H p) (h : q ≠ p) : WellAt (L2.upd H q o) p := by
  obtain ⟨x, y, z, e⟩ := a
  exact ⟨x, y, z, by rw [upd_ne h.symm]; exact e⟩
theorem ixN_nat {n j : Nat} (h : j < n) : ixN n (j : Int) = some j := by
  unfold ixN
  rw [if_pos (by omega), if_pos (by omega), Int.toNat_natCast]
/-- what the law makes of a block's ends, by its way n -/
def nB (n b : Nat) : Nat := if n = 2 then (if b = 0 then 8 else b) + 1 else b
def nR (n r : Nat) : Nat := if n = 3 then (if r = 0 then 8 else r) + 1 else r
def nT (n t b : Nat) : Nat := if n = 0 ∧ b = 0 then t + 1 else t
def nL (n l r : Nat) : Nat := if n = 1 ∧ r = 0 then l + 1 else l
/-- ends as the law draws them -/
structure O8 (t l b r : Nat) : Prop where
  t1 : 1 ≤ t
  t8 : t ≤ 8
  l1 : 1 ≤ l
  l8 : l ≤ 8
  b8 : b ≤ 8
  r8 : r ≤ 8
  tb : b = 0 ∨ t ≤ b
  lr : r = 0 ∨ l ≤ r
theorem O8.ok {t l b r : Nat} (o : O8 t l b r) : Ok t l b r := ⟨o.t1, by have := o.t8; omega, o.l1, by have := o.l8; omega, by have := o.b8; omega, by have := o.r8; omega, o.tb, o.lr⟩

def spWell : Sp := fun vs H Q _ => ∃ c : Int, vs = [.int c] ∧ ∀ p H', H p = none → Same H H' → WellAt H' p → Q (.ref p) H'
def spDraw : Sp := fun vs H Q _ => ∃ (p : Addr) (m : Nat), vs = [.ref p, .int (m : Int)] ∧ WellAt H p ∧ 1 ≤ m ∧ m ≤ 1000000000 ∧ ∀ (H' : Hp) (n : Nat), WellAt H' p → But H H' p → n < m → Q (.int (n : Int)) H'
def spEnds : Sp := fun vs H Q _ => ∃ p : Addr, vs = [.ref p] ∧ WellAt H p ∧ ∀ (H' : Hp) (q : Addr) (f e : Nat), WellAt H' p → But H H' p → H' q = some (.tup [.int (f : Int), eV e]) → 1 ≤ f → f ≤ 8 → e ≤ 8 → (e = 0 ∨ f ≤ e) → Q (.ref q) H'
def spNear : Sp := fun vs H Q _ => ∃ (p q : Addr) (t l b r : Nat), vs = [.ref p, .ref q] ∧ WellAt H p ∧ H q = some (.tup [.int (t : Int), .int (l : Int), eV b, eV r]) ∧ O8 t l b r ∧
  ∀ (H' : Hp) (z : Addr) (t' l' b' r' : Nat), WellAt H' p → But H H' p → H' z = some (.tup [.int (t' : Int), .int (l' : Int), eV b', eV r']) → Ok t' l' b' r' → Q (.ref z) H'

section
variable {P : Program} {w : World} {K : PySem.W.Frag} {mg : Str → Option Value} {base : Heap} {B : Addr}

theorem scWell : FnScope ["_law_cell"] ["_law_cell"] (C8.fnScope sWell) := C8.fnScope_by (by decide +kernel)
theorem ok_well {f : Addr} {fd : FuncData} (F : C8.Def K mg "_law_well" sWell f fd) (df : fd.defaults = .none) (T : Txt K mg B) : C8.Cal P w K mg base 1 "_law_well" spWell [] := by
  refine C8.cal0 F (F.fn.binds df (ps := ["_law_cell"]) fun _ _ _ _ _ _ us hl => match us, hl with | [_], _ => rfl) .nil scWell (fun vs H Q E h => ?_) (fun cdv A outer s H vs Q E hr h => ?_)
  · obtain ⟨c, rfl, _⟩ := h
    rfl
  · obtain ⟨c, rfl, k⟩ := h
    refine ⟨_, pss_one (ps_ret (pe_lst (pa_cons (pe_op op_mul (pv 0) (pe_callTy call_int1 (by rfl) T.gInt (by decide +kernel) (pa_cons (pe_cmp (pc_ge (pv 0) (pe_op op_pow pe_int pe_int)) rfl) pa_nil)))
      (pa_cons (pe_op op_mod (pv 0) pe_int) (pa_cons pe_int pa_nil))))), ?_⟩
    refine ⟨_, rfl, _, rfl, _, _, rfl, rfl, ⟨by decide, by decide, by decide⟩, _, _, rfl, rfl, .inr ⟨_, rfl, _, _, rfl, rfl, .inr ⟨?_, ?_⟩, _, rfl, _, _, rfl, rfl, (by show (0 : Int) < 2147483647; decide), (by show 3 ≤ sizeLine; decide), fun p hp => ?_⟩⟩
    · split <;> decide
    · split <;> decide
    · exact k p _ hp (same_new hp) ⟨_, _, _, upd_same⟩

theorem ix3 {K : PySem.W.Frag} {H : Hp} {p : Addr} {xs : List V} {v : V} {R : V → Hp → Prop} (j : Nat) (h : H p = some (.lst xs)) (hj : xs[j]? = some v) (k : R v H) : rIxL K (.ref p) (.int (j : Int)) H R :=
  ⟨p, xs, (j : Int), v, rfl, rfl, SqL.of h, atI_nat hj, k⟩

theorem scDraw : FnScope ["_law_well_here", "_law_many", "_law_found", "_law_number"] ["_law_well_here", "_law_many"] (C8.fnScope sDraw) := C8.fnScope_by (by decide +kernel)
theorem ok_draw {f : Addr} {fd : FuncData} (F : C8.Def K mg "_law_draw" sDraw f fd) (df : fd.defaults = .none) : C8.Cal P w K mg base 1 "_law_draw" spDraw [] := by
  refine C8.cal0 F (F.fn.binds df (ps := ["_law_well_here", "_law_many"]) fun _ _ _ _ _ _ us hl => match us, hl with | [_, _], _ => rfl) .nil scDraw (fun vs H Q E h => ?_) (fun cdv A outer s H vs Q E hr h => ?_)
  · obtain ⟨p, m, rfl, _⟩ := h
    rfl
  · obtain ⟨p, m, rfl, ⟨a, b, c, hp⟩, hm1, hm2, k⟩ := h
    refine ⟨_, pss_cons (ps_if (pt_cmp (pc_gt (pe_ix ix_list (pv 0) pe_int (fun _ _ => rfl)) pe_int))
        (pss_cons (ps_set (i := 2) scDraw.nd rfl (Or.inl rfl) (pe_op op_mod (pe_ix ix_list (pv 0) pe_int (fun _ _ => rfl)) (pv 1)))
        (pss_cons (ps_asg (pe_op op_fdiv (pe_ix ix_list (pv 0) pe_int (fun _ _ => rfl)) (pv 1)) (pg_sub (pv 0) pe_int set_list)) (pss_one (ps_ret (pv 2))))) pss_nil)
      (pss_cons (ps_asg (pe_op op_add (pe_ix ix_list (pv 0) pe_int (fun _ _ => rfl)) pe_int) (pg_sub (pv 0) pe_int set_list))
      (pss_cons (ps_set (i := 3) scDraw.nd rfl (Or.inl rfl) (pe_op op_mod (pe_op op_mul (pe_op op_add (pe_op op_add (pe_ix ix_list (pv 0) pe_int (fun _ _ => rfl)) (pe_op op_mul pe_int (pe_ix ix_list (pv 0) pe_int (fun _ _ => rfl)))) pe_int) pe_int) pe_int))
      (pss_cons (ps_set (i := 3) scDraw.nd rfl (Or.inl rfl) (pe_op op_mod (pe_op op_mul (pv 3) (pe_op op_add (pe_op op_fdiv (pv 3) pe_int) pe_int)) pe_int))
      (pss_one (ps_ret (pe_op op_mod (pe_op op_fdiv (pe_op op_mod (pe_op op_mul (pv 3) (pe_op op_add (pe_op op_fdiv (pv 3) pe_int) pe_int)) pe_int) pe_int) (pv 1))))))), ?_⟩
    have hm : (0 : Int) < (m : Int) := by omega
    have fin : ∀ (z : Int) (H' : Hp), WellAt H' p → But H H' p → Q (.int (z % (m : Int))) H' := fun z H' wl bt => by
      have h0 := Int.emod_nonneg z (show (m : Int) ≠ 0 by omega)
      have h1 := Int.emod_lt_of_pos z hm
      obtain ⟨n, e⟩ : ∃ n : Nat, z % (m : Int) = (n : Int) := ⟨(z % (m : Int)).toNat, by omega⟩
      rw [e]
      exact k H' n wl bt (by omega)
    refine ⟨_, rfl, p, _, _, _, rfl, rfl, SqL.of hp, at_of (j := 0) rfl rfl, _, _, rfl, rfl, _, rfl, ite2 (fun _ => ?_) (fun _ => ?_)⟩
    · refine ⟨_, rfl, p, _, _, _, rfl, rfl, SqL.of hp, at_of (j := 0) rfl rfl, _, rfl, _, _, rfl, rfl, hm, ?_⟩
      refine ⟨_, rfl, p, _, _, _, rfl, rfl, SqL.of hp, at_of (j := 0) rfl rfl, _, rfl, _, _, rfl, rfl, ⟨hm, by omega⟩, _, rfl, p, _, 0, 0, rfl, rfl, hp, ixN_nat (n := 3) (j := 0) (by decide), ?_⟩
      exact ⟨_, rfl, fin a _ ⟨_, _, _, upd_same⟩ (But.refl H p).upd⟩
    · refine ⟨_, rfl, p, _, _, _, rfl, rfl, SqL.of hp, at_of (j := 2) rfl rfl, _, _, rfl, rfl, _, rfl, p, _, 2, 2, rfl, rfl, hp, ixN_nat (n := 3) (j := 2) (by decide), ?_⟩
      have hp2 : upd H p (.lst [.int a, .int b, .int (c + 1)]) p = some (.lst [.int a, .int b, .int (c + 1)]) := upd_same
      have q1 : ∀ z : Int, 0 ≤ z % 2147483647 ∧ z % 2147483647 < 2147483647 := fun z => ⟨Int.emod_nonneg _ (by decide), Int.emod_lt_of_pos _ (by decide)⟩
      have q2 : ∀ z : Int, 0 ≤ z % 2147483629 ∧ z % 2147483629 < 2147483629 := fun z => ⟨Int.emod_nonneg _ (by decide), Int.emod_lt_of_pos _ (by decide)⟩
      refine ⟨_, rfl, p, _, _, _, rfl, rfl, SqL.of hp2, at_of (j := 1) rfl rfl, _, rfl, p, _, _, _, rfl, rfl, SqL.of hp2, at_of (j := 2) rfl rfl, _, _, rfl, rfl, .inl ⟨by decide, by decide⟩, _, _, rfl, rfl, _, _, rfl, rfl, _, _, rfl, rfl, .inr ⟨by decide, by decide⟩, _, _, rfl, rfl, (by show (0 : Int) < 2147483647; decide), ?_⟩
      refine ⟨_, rfl, _, rfl, _, _, rfl, rfl, ⟨by decide, by decide⟩, _, _, rfl, rfl, _, _, rfl, rfl, .inl ?_, _, _, rfl, rfl, (by show (0 : Int) < 2147483629; decide), ?_⟩
      · have := q1 ((b + 7919 * (c + 1) + 1) * 48271)
        exact ⟨by omega, by omega⟩
      refine ⟨_, rfl, _, rfl, _, _, rfl, rfl, ⟨by decide, by decide⟩, _, _, rfl, rfl, _, _, rfl, rfl, .inl ?_, _, _, rfl, rfl, (by show (0 : Int) < 2147483399; decide), _, _, rfl, rfl, ⟨by decide, by decide⟩, _, rfl, _, _, rfl, rfl, hm, ?_⟩
      · have := q2 ((b + 7919 * (c + 1) + 1) * 48271 % 2147483647 * ((b + 7919 * (c + 1) + 1) * 48271 % 2147483647 / 1009 + 69621))
        exact ⟨by omega, by omega⟩
      exact fin _ _ ⟨_, _, _, upd_same⟩ (But.refl H p).upd

theorem scEnds : FnScope ["_law_well_here", "_law_first", "_law_way"] ["_law_well_here"] (C8.fnScope sEnds) := C8.fnScope_by (by decide +kernel)
theorem ok_ends {f : Addr} {fd : FuncData} (F : C8.Def K mg "_law_ends" sEnds f fd) (df : fd.defaults = .none) (cD : C8.Cal P w K mg base 1 "_law_draw" spDraw []) : C8.Cal P w K mg base 2 "_law_ends" spEnds [] := by
  refine C8.cal0 F (F.fn.binds df (ps := ["_law_well_here"]) fun _ _ _ _ _ _ us hl => match us, hl with | [_], _ => rfl) .nil scEnds (fun vs H Q E h => ?_) (fun cdv A outer s H vs Q E hr h => ?_)
  · obtain ⟨p, rfl, _⟩ := h
    rfl
  · obtain ⟨p, rfl, hw, k⟩ := h
    refine ⟨_, pss_cons (ps_set (i := 1) scEnds.nd rfl (Or.inl rfl) (pe_op op_add pe_int (C8.pe_c cD hr (by decide) (by rfl) (pa_cons (pv 0) (pa_cons pe_int pa_nil)))))
      (pss_cons (ps_set (i := 2) scEnds.nd rfl (Or.inl rfl) (C8.pe_c cD hr (by decide) (by rfl) (pa_cons (pv 0) (pa_cons pe_int pa_nil))))
      (pss_cons (ps_if (pt_cmp (pc_eqI (pv 2) pe_int)) (pss_one (ps_ret (pe_tup (pa_cons (pv 1) (pa_cons pe_non pa_nil))))) pss_nil)
      (pss_cons (ps_if (pt_cmp (pc_eqI (pv 2) pe_int)) (pss_one (ps_ret (pe_tup (pa_cons pe_int (pa_cons (pe_ix ix_list (pe_lst (pa_cons pe_non (pa_cons pe_int pa_nil))) (C8.pe_c cD hr (by decide) (by rfl) (pa_cons (pv 0) (pa_cons pe_int pa_nil))) (fun _ _ => rfl)) pa_nil))))) pss_nil)
      (pss_one (ps_ret (pe_tup (pa_cons (pv 1) (pa_cons (pe_op op_add (pv 1) (C8.pe_c cD hr (by decide) (by rfl) (pa_cons (pv 0) (pa_cons (pe_op op_sub pe_int (pv 1)) pa_nil)))) pa_nil)))))))), ?_⟩
    refine ⟨_, rfl, p, 8, rfl, hw, by decide, by decide, fun H1 n1 w1 b1 h1 => ⟨_, _, rfl, rfl, ?_⟩⟩
    refine ⟨_, rfl, p, 4, rfl, w1, by decide, by decide, fun H2 n2 w2 b2 h2 => ?_⟩
    have b12 := b1.trans b2
    have e1 : (1 : Int) + (n1 : Int) = ((1 + n1 : Nat) : Int) := by omega
    refine ⟨_, rfl, _, _, rfl, rfl, _, rfl, ite2 (fun _ => ?_) (fun _ => ?_)⟩
    · refine ⟨_, rfl, (by show 2 ≤ sizeLine; decide), fun q hq => ?_⟩
      refine k _ q (1 + n1) 0 (w2.new hq) (b12.new hq) ?_ (by omega) (by omega) (by omega) (.inl rfl)
      show _ = some (HO.tup [.int ((1 + n1 : Nat) : Int), .non])
      rw [upd_same, ← e1]
    · refine ⟨_, rfl, _, _, rfl, rfl, _, rfl, ite2 (fun _ => ?_) (fun _ => ?_)⟩
      · refine ⟨by show 2 ≤ sizeLine; decide, fun l hl => ⟨_, rfl, p, 2, rfl, w2.new hl, by decide, by decide, fun H3 n3 w3 b3 h3 => ?_⟩⟩
        have npl : l ≠ p := by
          obtain ⟨_, _, _, e⟩ := id w2
          exact fun z => by rw [z] at hl; rw [hl] at e; cases e
        have hl3 : H3 l = some (.lst [.non, .int 8]) := b3 l _ upd_same npl
        have b123 : But H H3 p := (b12.new hl).trans b3
        have hv : ∃ e : Nat, [V.non, V.int 8][n3]? = some (eV e) ∧ e ≤ 8 ∧ (e = 0 ∨ 1 ≤ e) := by
          match n3, h3 with
          | 0, _ => exact ⟨0, rfl, by decide, .inl rfl⟩
          | 1, _ => exact ⟨8, rfl, by decide, .inr (by decide)⟩
        obtain ⟨e, he, h8, h0⟩ := hv
        refine ⟨l, _, _, _, rfl, rfl, SqL.of hl3, atI_nat he, (by show 2 ≤ sizeLine; decide), fun q hq => ?_⟩
        exact k _ q 1 e (w3.new hq) (b123.new hq) upd_same (by decide) (by decide) h8 h0
      · have e2 : (9 : Int) - ((1 : Int) + (n1 : Int)) = ((8 - n1 : Nat) : Int) := by omega
        refine ⟨_, rfl, _, rfl, _, rfl, _, rfl, _, _, rfl, rfl, p, 8 - n1, ?_, w2, by omega, by omega, fun H3 n3 w3 b3 h3 => ⟨_, _, rfl, rfl, (by show 2 ≤ sizeLine; decide), fun q hq => ?_⟩⟩
        · show [V.ref p, V.int ((9 : Int) - ((1 : Int) + (n1 : Int)))] = _
          rw [e2]
        · refine k _ q (1 + n1) (1 + n1 + n3) (w3.new hq) ((b12.trans b3).new hq) ?_ (by omega) (by omega) (by omega) (.inr (by omega))
          rw [upd_same, eV_pos (by omega)]
          have e3 : (1 : Int) + (n1 : Int) + (n3 : Int) = ((1 + n1 + n3 : Nat) : Int) := by omega
          rw [← e3, ← e1]

theorem scNear : FnScope ["_law_well_here", "_law_four", "_law_way", "_law_found"] ["_law_well_here", "_law_four"] (C8.fnScope sNear) := C8.fnScope_by (by decide +kernel)
theorem ok_near {f : Addr} {fd : FuncData} (F : C8.Def K mg "_law_near" sNear f fd) (df : fd.defaults = .none) (T : Txt K mg B) (cD : C8.Cal P w K mg base 1 "_law_draw" spDraw []) : C8.Cal P w K mg base 2 "_law_near" spNear [] := by
  refine C8.cal0 F (F.fn.binds df (ps := ["_law_well_here", "_law_four"]) fun _ _ _ _ _ _ us hl => match us, hl with | [_, _], _ => rfl) .nil scNear (fun vs H Q E h => ?_) (fun cdv A outer s H vs Q E hr h => ?_)
  · obtain ⟨p, q, t, l, b, r, rfl, _⟩ := h
    rfl
  · obtain ⟨p, q, t, l, b, r, rfl, hw, hq, O, k⟩ := h
    refine ⟨_, pss_cons (ps_set (i := 2) scNear.nd rfl (Or.inl rfl) (C8.pe_c cD hr (by decide) (by rfl) (pa_cons (pv 0) (pa_cons pe_int pa_nil))))
      (pss_cons (ps_set (i := 3) scNear.nd rfl (Or.inl rfl) (pe_callTy call_list_of (by rfl) T.gList (by decide +kernel) (pa_cons (pv 1) pa_nil)))
      (C8.pss_cut (ps_if (PW.pt (pw_or (pt_cmp (pc_eqI (pv 2) pe_int)) (pw_or1 (pt_cmp (pc_eqI (pv 2) pe_int)))))
        (pss_one (ps_asg (pe_op op_add (pe_orT (pe_ix ix_list (pv 3) (pv 2) (fun _ _ => rfl)) (pe_one pe_int)) pe_int) (pg_sub (pv 3) (pv 2) set_list))) pss_nil)
      (C8.pss_cut (ps_if (PW.pt (pw_and (pt_cmp (pc_lt (pv 2) pe_int)) (pw_and1 (pt_cmp (pc_isN (pe_ix ix_list (pv 3) (pe_op op_add (pv 2) pe_int) (fun _ _ => rfl)))))))
        (pss_one (ps_asg (pe_op op_add (pe_ix ix_list (pv 3) (pv 2) (fun _ _ => rfl)) pe_int) (pg_sub (pv 3) (pv 2) set_list))) pss_nil)
      (pss_one (ps_ret (pe_callTy call_tuple_of (by rfl) T.gTuple (by decide +kernel) (pa_cons (pv 3) pa_nil))))))), ?_⟩
    obtain ⟨t1, t8, l1, l8, b8, r8, tb, lr⟩ := O
    refine ⟨_, rfl, p, 5, rfl, hw, by decide, by decide, fun H1 n w1 b1 hn => ?_⟩
    have npq : q ≠ p := by
      obtain ⟨_, _, _, e⟩ := id hw
      exact fun z => by rw [z, e] at hq; cases hq
    have hq1 := b1 q _ hq npq
    refine ⟨_, rfl, q, _, rfl, .inr (SqT.of hq1), fun L hL => ?_⟩
    have npL : L ≠ p := by
      obtain ⟨_, _, _, e⟩ := id w1
      exact fun z => by rw [z] at hL; rw [hL] at e; cases e
    have hL2 : upd H1 L (.lst [.int (t : Int), .int (l : Int), eV b, eV r]) L = some (.lst [.int (t : Int), .int (l : Int), eV b, eV r]) := upd_same
    have bt2 : But H (upd H1 L (.lst [.int (t : Int), .int (l : Int), eV b, eV r])) p := b1.new hL
    have w2 : WellAt (upd H1 L (.lst [.int (t : Int), .int (l : Int), eV b, eV r])) p := w1.new hL
    have hL0 : H L = none := by
      cases e : H L with
      | none => rfl
      | some o => rw [b1 L o e npL] at hL; cases hL
    revert hL2 bt2 w2
    generalize upd H1 L (.lst [.int (t : Int), .int (l : Int), eV b, eV r]) = H2
    intro hL2 bt2 w2
    have five : n = 0 ∨ n = 1 ∨ n = 2 ∨ n = 3 ∨ n = 4 := by omega
    refine ⟨fun σ' H' => But H H' p ∧ WellAt H' p ∧ H' L = some (.lst [.int (t : Int), .int (l : Int), eV (nB n b), eV (nR n r)]) ∧ σ' = [some (.ref p), some (.ref q), some (.int (n : Int)), some (.ref L)], ?_, ?_⟩
    · rcases five with rfl | rfl | rfl | rfl | rfl
      · exact ⟨_, rfl, _, _, rfl, rfl, false, rfl, iteF ⟨_, rfl, _, _, rfl, rfl, false, rfl, iteF ⟨bt2, w2, hL2, rfl⟩⟩⟩
      · exact ⟨_, rfl, _, _, rfl, rfl, false, rfl, iteF ⟨_, rfl, _, _, rfl, rfl, false, rfl, iteF ⟨bt2, w2, hL2, rfl⟩⟩⟩
      · refine ⟨_, rfl, _, _, rfl, rfl, true, rfl, iteT (iteT ⟨_, rfl, _, rfl, ix3 2 hL2 rfl ⟨_, truE b, ?_⟩⟩)⟩
        have fin : ∀ z : Nat, nB 2 b = z + 1 → (∃ i j : Int, V.int (z : Int) = V.int i ∧ V.int 1 = V.int j ∧ gSub (tVar 3) (tVar 2) rSetL (V.int (i + j)) [some (.ref p), some (.ref q), some (.int ((2 : Nat) : Int)), some (.ref L)] H2 (fun σ' H' => But H H' p ∧ WellAt H' p ∧ H' L = some (.lst [.int (t : Int), .int (l : Int), eV (nB 2 b), eV (nR 2 r)]) ∧ σ' = [some (.ref p), some (.ref q), some (.int ((2 : Nat) : Int)), some (.ref L)])) := fun z hz =>
          ⟨_, _, rfl, rfl, _, rfl, _, rfl, L, _, _, 2, rfl, rfl, hL2, ixN_nat (n := 4) (j := 2) (by decide), bt2.updN hL0, w2.upd npL, by
            rw [upd_same, hz, eV_pos (show 1 ≤ z + 1 by omega)]
            rfl, rfl⟩
        by_cases h0 : b = 0
        · subst h0
          exact iteF (fin 8 rfl)
        · rw [decide_eq_false h0]
          refine iteT ?_
          rw [eV_pos (show 1 ≤ b by omega)]
          exact fin b (by unfold nB; rw [if_pos rfl, if_neg h0])
      · refine ⟨_, rfl, _, _, rfl, rfl, false, rfl, iteF ⟨_, rfl, _, _, rfl, rfl, true, rfl, iteT ⟨_, rfl, _, rfl, ix3 3 hL2 rfl ⟨_, truE r, ?_⟩⟩⟩⟩
        have fin : ∀ z : Nat, nR 3 r = z + 1 → (∃ i j : Int, V.int (z : Int) = V.int i ∧ V.int 1 = V.int j ∧ gSub (tVar 3) (tVar 2) rSetL (V.int (i + j)) [some (.ref p), some (.ref q), some (.int ((3 : Nat) : Int)), some (.ref L)] H2 (fun σ' H' => But H H' p ∧ WellAt H' p ∧ H' L = some (.lst [.int (t : Int), .int (l : Int), eV (nB 3 b), eV (nR 3 r)]) ∧ σ' = [some (.ref p), some (.ref q), some (.int ((3 : Nat) : Int)), some (.ref L)])) := fun z hz =>
          ⟨_, _, rfl, rfl, _, rfl, _, rfl, L, _, _, 3, rfl, rfl, hL2, ixN_nat (n := 4) (j := 3) (by decide), bt2.updN hL0, w2.upd npL, by
            rw [upd_same, hz, eV_pos (show 1 ≤ z + 1 by omega)]
            rfl, rfl⟩
        by_cases h0 : r = 0
        · subst h0
          exact iteF (fin 8 rfl)
        · rw [decide_eq_false h0]
          refine iteT ?_
          rw [eV_pos (show 1 ≤ r by omega)]
          exact fin r (by unfold nR; rw [if_pos rfl, if_neg h0])
      · exact ⟨_, rfl, _, _, rfl, rfl, false, rfl, iteF ⟨_, rfl, _, _, rfl, rfl, false, rfl, iteF ⟨bt2, w2, hL2, rfl⟩⟩⟩
    rintro σ3 H3 ⟨bt3, w3, hL3, rfl⟩
    refine ⟨fun σ' H' => But H H' p ∧ WellAt H' p ∧ H' L = some (.lst [.int (nT n t b : Int), .int (nL n l r : Int), eV (nB n b), eV (nR n r)]) ∧ σ' = [some (.ref p), some (.ref q), some (.int (n : Int)), some (.ref L)], ?_, ?_⟩
    · rcases five with rfl | rfl | rfl | rfl | rfl
      · refine ⟨_, rfl, _, _, rfl, rfl, true, rfl, iteT ⟨_, rfl, _, rfl, _, _, rfl, rfl, ix3 2 hL3 rfl ⟨decide (b = 0), congrArg V.bl (eV_isN b), ?_⟩⟩⟩
        by_cases h0 : b = 0
        · subst h0
          exact iteT ⟨_, rfl, _, rfl, ix3 0 hL3 rfl ⟨_, _, rfl, rfl, _, rfl, _, rfl, L, _, _, 0, rfl, rfl, hL3, ixN_nat (n := 4) (j := 0) (by decide), bt3.updN hL0, w3.upd npL, upd_same, rfl⟩⟩
        · rw [decide_eq_false h0]
          refine iteF ⟨bt3, w3, ?_, rfl⟩
          have : nT 0 t b = t := if_neg (by omega)
          rw [this]
          exact hL3
      · refine ⟨_, rfl, _, _, rfl, rfl, true, rfl, iteT ⟨_, rfl, _, rfl, _, _, rfl, rfl, ix3 3 hL3 rfl ⟨decide (r = 0), congrArg V.bl (eV_isN r), ?_⟩⟩⟩
        by_cases h0 : r = 0
        · subst h0
          exact iteT ⟨_, rfl, _, rfl, ix3 1 hL3 rfl ⟨_, _, rfl, rfl, _, rfl, _, rfl, L, _, _, 1, rfl, rfl, hL3, ixN_nat (n := 4) (j := 1) (by decide), bt3.updN hL0, w3.upd npL, upd_same, rfl⟩⟩
        · rw [decide_eq_false h0]
          refine iteF ⟨bt3, w3, ?_, rfl⟩
          have : nL 1 l r = l := if_neg (by omega)
          rw [this]
          exact hL3
      · exact ⟨_, rfl, _, _, rfl, rfl, false, rfl, iteF (iteF ⟨bt3, w3, hL3, rfl⟩)⟩
      · exact ⟨_, rfl, _, _, rfl, rfl, false, rfl, iteF (iteF ⟨bt3, w3, hL3, rfl⟩)⟩
      · exact ⟨_, rfl, _, _, rfl, rfl, false, rfl, iteF (iteF ⟨bt3, w3, hL3, rfl⟩)⟩
    rintro σ4 H4 ⟨bt4, w4, hL4, rfl⟩
    refine ⟨_, rfl, L, _, rfl, .inl ⟨SqL.of hL4, fun z hz => ?_⟩⟩
    refine k _ z (nT n t b) (nL n l r) (nB n b) (nR n r) (w4.new hz) (bt4.new hz) upd_same ?_
    unfold nT nL nB nR
    refine ⟨?_, ?_, ?_, ?_, ?_, ?_, ?_, ?_⟩ <;> (repeat' split) <;> omega
end
end K7

/-! K7f: windows: the plain law -/
namespace K7
open PySem L2 SX

/-! ### the window's cells, in plain numbers -/
def ax10 : List Nat := [1, 2, 3, 4, 5, 6, 7, 8, 9, 10]
def ax (far : Nat) : List Nat := ax10 ++ [far]
def rowW (t l b r x : Nat) (ys : List Nat) : List (Nat × Nat) := (ys.filter fun y => hasB t l b r x y).map fun y => (x, y)
def W (t l b r far : Nat) : List (Nat × Nat) := (ax far).flatMap fun x => rowW t l b r x (ax far)
def inR (lo e x : Nat) : Bool := decide (lo ≤ x) && inE e x
theorem hasB_eq (t l b r x y : Nat) : hasB t l b r x y = (inR t b x && inR l r y) := by
  unfold hasB inR
  cases decide (t ≤ x) <;> cases decide (l ≤ y) <;> cases inE b x <;> cases inE r y <;> rfl
theorem mem_W {t l b r far : Nat} {c : Nat × Nat} : c ∈ W t l b r far ↔ c.1 ∈ ax far ∧ c.2 ∈ ax far ∧ hasB t l b r c.1 c.2 = true := by
  unfold W rowW
  simp only [List.mem_flatMap, List.mem_map, List.mem_filter]
  constructor
  · rintro ⟨x, hx, y, ⟨hy, h⟩, rfl⟩
    exact ⟨hx, hy, h⟩
  · rintro ⟨hx, hy, h⟩
    exact ⟨c.1, hx, c.2, ⟨hy, h⟩, rfl⟩
theorem len_prod (p q : Nat → Bool) (ys : List Nat) : ∀ xs : List Nat, (xs.flatMap fun x => (ys.filter fun y => p x && q y).map fun y => (x, y)).length = (xs.filter p).length * (ys.filter q).length
  | [] => by simp
  | x :: xs => by
    have ih := len_prod p q ys xs
    rw [List.flatMap_cons, List.length_append, ih, List.length_map]
    cases h : p x with
    | true =>
      rw [List.filter_cons_of_pos h, List.length_cons, Nat.succ_mul]
      simp only [Bool.true_and]
      exact Nat.add_comm _ _
    | false =>
      rw [List.filter_cons_of_neg (by rw [h]; decide)]
      simp
theorem len_axis {lo e far : Nat} (h0 : 1 ≤ lo) (h1 : lo ≤ e) (h9 : e ≤ 9) (hf : 1000000000 ≤ far) : ((ax far).filter (inR lo e)).length = e - lo + 1 := by
  have h : ∀ e, e < 10 → ∀ lo, lo < 10 → 1 ≤ lo → lo ≤ e → (ax10.filter (inR lo e)).length = e - lo + 1 := by decide +kernel
  unfold ax
  rw [List.filter_append, List.length_append, h e (by omega) lo (by omega) h0 h1]
  have : inR lo e far = false := by
    unfold inR inE
    rw [decide_eq_false (show ¬ e = 0 by omega), decide_eq_false (show ¬ far ≤ e by omega)]
    simp
  rw [List.filter_cons_of_neg (by rw [this]; decide)]
  rfl
theorem far_ax (far : Nat) : far ∈ ax far := List.mem_append_right _ (List.mem_cons_self ..)
theorem small_ax {n : Nat} (far : Nat) (h1 : 1 ≤ n) (h9 : n ≤ 10) : n ∈ ax far := by
  refine List.mem_append_left _ ?_
  have h : ∀ n, n < 11 → 1 ≤ n → n ∈ ax10 := by decide
  exact h n (by omega) h1
theorem ax_pos {far x : Nat} (hf : 1000000000 ≤ far) (h : x ∈ ax far) : 1 ≤ x := by
  rcases List.mem_append.mp h with h | h
  · have h2 : ∀ x ∈ ax10, 1 ≤ x := by decide
    exact h2 x h
  · have : x = far := by simpa using h
    omega
theorem hasB_iff {t l b r x y : Nat} : hasB t l b r x y = true ↔ (t ≤ x ∧ l ≤ y) ∧ ((b = 0 ∨ x ≤ b) ∧ (r = 0 ∨ y ≤ r)) := by
  unfold hasB inE
  simp only [Bool.and_eq_true, Bool.or_eq_true, decide_eq_true_iff]
theorem first_in {t l b r : Nat} (far : Nat) (O : Ok t l b r) : (t, l) ∈ W t l b r far :=
  mem_W.mpr ⟨small_ax far O.t1 (by have := O.t9; show t ≤ 10; omega), small_ax far O.l1 (by have := O.l9; show l ≤ 10; omega), hasB_iff.mpr ⟨⟨Nat.le_refl _, Nat.le_refl _⟩, O.tb, O.lr⟩⟩
theorem W_ne {t l b r : Nat} (far : Nat) (O : Ok t l b r) : W t l b r far ≠ [] := fun h => by
  have := first_in far O
  rw [h] at this
  cases this
theorem farr_in {t l r : Nat} {far : Nat} (hf : 1000000000 ≤ far) (O : Ok t l 0 r) : (far, l) ∈ W t l 0 r far :=
  mem_W.mpr ⟨far_ax far, small_ax far O.l1 (by have := O.l9; show l ≤ 10; omega), hasB_iff.mpr ⟨⟨(by have := O.t9; show t ≤ far; omega), Nat.le_refl _⟩, .inl rfl, O.lr⟩⟩
theorem farc_in {t l b : Nat} {far : Nat} (hf : 1000000000 ≤ far) (O : Ok t l b 0) : (t, far) ∈ W t l b 0 far :=
  mem_W.mpr ⟨small_ax far O.t1 (by have := O.t9; show t ≤ 10; omega), far_ax far, hasB_iff.mpr ⟨⟨Nat.le_refl _, (by have := O.l9; show l ≤ far; omega)⟩, O.tb, .inl rfl⟩⟩
theorem last_in {t l b r : Nat} (far : Nat) (O : Ok t l b r) (hb : b ≠ 0) : (b, l) ∈ W t l b r far :=
  mem_W.mpr ⟨small_ax far (by show 1 ≤ b; omega) (by have := O.b9; show b ≤ 10; omega), small_ax far O.l1 (by have := O.l9; show l ≤ 10; omega), hasB_iff.mpr ⟨⟨(by have := O.tb; show t ≤ b; omega), Nat.le_refl _⟩, .inr (Nat.le_refl _), O.lr⟩⟩
theorem lastc_in {t l b r : Nat} (far : Nat) (O : Ok t l b r) (hr : r ≠ 0) : (t, r) ∈ W t l b r far :=
  mem_W.mpr ⟨small_ax far O.t1 (by have := O.t9; show t ≤ 10; omega), small_ax far (by show 1 ≤ r; omega) (by have := O.r9; show r ≤ 10; omega), hasB_iff.mpr ⟨⟨Nat.le_refl _, (by have := O.lr; show l ≤ r; omega)⟩, O.tb, .inr (Nat.le_refl _)⟩⟩
/-- whether a cell is behind the window -/
def farC (far : Nat) (c : Nat × Nat) : Bool := decide (c.1 = far) || decide (c.2 = far)
theorem beyond_iff {t l b r far : Nat} (hf : 1000000000 ≤ far) (O : Ok t l b r) : (W t l b r far).filter (farC far) = [] ↔ ¬ (b = 0 ∨ r = 0) := by
  rw [List.filter_eq_nil_iff]
  constructor
  · rintro h (rfl | rfl)
    · exact h _ (farr_in hf O) (by unfold farC; rw [decide_eq_true rfl]; rfl)
    · exact h _ (farc_in hf O) (by unfold farC; rw [decide_eq_true (p := (t, far).2 = far) rfl]; simp)
  · intro h c hc hfc
    obtain ⟨_, _, hb⟩ := mem_W.mp hc
    have hb := hasB_iff.mp hb
    have b9 := O.b9
    have r9 := O.r9
    unfold farC at hfc
    simp only [Bool.or_eq_true, decide_eq_true_iff] at hfc
    omega
theorem len_W {t l b r far : Nat} (hf : 1000000000 ≤ far) (O : Ok t l b r) (h : ¬ (b = 0 ∨ r = 0)) : (W t l b r far).length = szN t l b r := by
  have e : W t l b r far = (ax far).flatMap fun x => ((ax far).filter fun y => inR t b x && inR l r y).map fun y => (x, y) := by
    unfold W rowW
    simp only [hasB_eq]
  have o1 := O.tb
  have o2 := O.lr
  rw [e, len_prod, len_axis O.t1 (by omega) O.b9 hf, len_axis O.l1 (by omega) O.r9 hf]
  rfl
/-- blocks are alike just where their windows are -/
theorem W_inj {t l b r t' l' b' r' far : Nat} (hf : 1000000000 ≤ far) (O : Ok t l b r) (O' : Ok t' l' b' r') : (t = t' ∧ l = l' ∧ b = b' ∧ r = r') ↔ W t l b r far = W t' l' b' r' far := by
  constructor
  · rintro ⟨rfl, rfl, rfl, rfl⟩; rfl
  · intro h
    have go : ∀ c, c ∈ W t l b r far → (t' ≤ c.1 ∧ l' ≤ c.2) ∧ ((b' = 0 ∨ c.1 ≤ b') ∧ (r' = 0 ∨ c.2 ≤ r')) := fun c hc => hasB_iff.mp (mem_W.mp (h ▸ hc)).2.2
    have back : ∀ c, c ∈ W t' l' b' r' far → (t ≤ c.1 ∧ l ≤ c.2) ∧ ((b = 0 ∨ c.1 ≤ b) ∧ (r = 0 ∨ c.2 ≤ r)) := fun c hc => hasB_iff.mp (mem_W.mp (h ▸ hc)).2.2
    have g1 : t' ≤ t ∧ l' ≤ l := (go _ (first_in far O)).1
    have k1 : t ≤ t' ∧ l ≤ l' := (back _ (first_in far O')).1
    have b9 := O.b9
    have r9 := O.r9
    have b9' := O'.b9
    have r9' := O'.r9
    have eb : b = b' := by
      by_cases h0 : b = 0
      · subst h0
        have : b' = 0 ∨ far ≤ b' := (go _ (farr_in hf O)).2.1
        omega
      · have h1 : b' = 0 ∨ b ≤ b' := (go _ (last_in far O h0)).2.1
        by_cases h2 : b' = 0
        · subst h2
          have : b = 0 ∨ far ≤ b := (back _ (farr_in hf O')).2.1
          omega
        · have h3 : b = 0 ∨ b' ≤ b := (back _ (last_in far O' h2)).2.1
          omega
    have er : r = r' := by
      by_cases h0 : r = 0
      · subst h0
        have : r' = 0 ∨ far ≤ r' := (go _ (farc_in hf O)).2.2
        omega
      · have h1 : r' = 0 ∨ r ≤ r' := (go _ (lastc_in far O h0)).2.2
        by_cases h2 : r' = 0
        · subst h2
          have : r = 0 ∨ far ≤ r := (back _ (farc_in hf O')).2.2
          omega
        · have h3 : r = 0 ∨ r' ≤ r := (back _ (lastc_in far O' h2)).2.2
          omega
    exact ⟨by omega, by omega, eb, er⟩

/-! ### cells as data -/
def dC (c : Nat × Nat) : PyData := .tuple [.int (c.1 : Int), .int (c.2 : Int)]
theorem canLay_cells : ∀ cs : List (Nat × Nat), PyData.canLayAll0 (cs.map dC) = true
  | [] => by simp [PyData.canLayAll0]
  | c :: cs => by
    rw [List.map_cons]
    simp only [PyData.canLayAll0, canLay_cells cs, dC, PyData.canLay0, Bool.and_true]
theorem depth_cells : ∀ cs : List (Nat × Nat), PyData.depthAll (cs.map dC) ≤ 1
  | [] => by simp [PyData.depthAll]
  | c :: cs => by
    have := depth_cells cs
    rw [List.map_cons]
    simp only [PyData.depthAll, dC, PyData.depth]
    omega
theorem shape_cells (cs : List (Nat × Nat)) : SeqAt.shaped (.list (cs.map dC)) = true := by
  unfold SeqAt.shaped
  have h := depth_cells cs
  rw [Bool.and_eq_true]
  exact ⟨by simp only [PyData.canLay0]; exact canLay_cells cs, decide_eq_true (by simp only [PyData.depth]; omega)⟩
theorem eqv_cell (c d : Nat × Nat) : PyData.eqv (dC c) (dC d) = decide (c = d) := by
  obtain ⟨a, b⟩ := c
  obtain ⟨a', b'⟩ := d
  unfold dC
  simp only [PyData.eqv, PyData.eqvAll, Bool.and_true]
  rw [Bool.eq_iff_iff]
  simp only [Bool.and_eq_true, beq_iff_eq, decide_eq_true_iff, Prod.mk.injEq]
  omega
theorem eqv_cells : ∀ cs ds : List (Nat × Nat), PyData.eqvAll (cs.map dC) (ds.map dC) = decide (cs = ds)
  | [], [] => by simp [PyData.eqvAll]
  | [], _ :: _ => by simp [PyData.eqvAll]
  | _ :: _, [] => by simp [PyData.eqvAll]
  | c :: cs, d :: ds => by
    rw [List.map_cons, List.map_cons]
    simp only [PyData.eqvAll, eqv_cell, eqv_cells cs ds]
    rw [Bool.eq_iff_iff]
    simp
theorem eqv_lists (cs ds : List (Nat × Nat)) : PyData.eqv (.list (cs.map dC)) (.list (ds.map dC)) = decide (cs = ds) := by
  simp only [PyData.eqv]
  exact eqv_cells cs ds

/-! ### cells in the heap -/
def Tups (H : Hp) (ts : List Addr) (cs : List (Nat × Nat)) : Prop := Paired (fun (t : Addr) (c : Nat × Nat) => H t = some (.tup [.int (c.1 : Int), .int (c.2 : Int)])) ts cs
theorem Tups.same {H H' : Hp} {ts : List Addr} {cs : List (Nat × Nat)} (h : Tups H ts cs) (s : Same H H') : Tups H' ts cs := Paired.mapP h fun _ _ e => s _ _ e
/-- a list, no tuple, is changed -/
theorem Tups.upd {H : Hp} {p : Addr} {xs ys : List V} {ts : List Addr} {cs : List (Nat × Nat)} (h : Tups H ts cs) (hp : H p = some (.lst xs)) : Tups (L2.upd H p (.lst ys)) ts cs := Paired.mapP h fun t c e => by
  rw [upd_ne (ne_of e hp (by intro z; cases z))]; exact e
theorem Tups.dp {K : PySem.W.Frag} {H : Hp} {ts : List Addr} {cs : List (Nat × Nat)} (h : Tups H ts cs) : DpAll K H (ts.map V.ref) (cs.map dC) := by
  unfold Tups at h
  induction h with
  | nil => exact .nil
  | cons e t ih => exact .cons (.tup (SqT.of e) (.cons (.int _) (.cons (.int _) .nil))) ih
/-- a list of cells stands at p -/
def Cells (H : Hp) (p : Addr) (cs : List (Nat × Nat)) : Prop := ∃ ts : List Addr, H p = some (.lst (ts.map V.ref)) ∧ Tups H ts cs
theorem Cells.same {H H' : Hp} {p : Addr} {cs : List (Nat × Nat)} (h : Cells H p cs) (s : Same H H') : Cells H' p cs := by
  obtain ⟨ts, e, q⟩ := h
  exact ⟨ts, s _ _ e, q.same s⟩
theorem Cells.dp {K : PySem.W.Frag} {H : Hp} {p : Addr} {cs : List (Nat × Nat)} (h : Cells H p cs) : Dp K H (.ref p) (.list (cs.map dC)) := by
  obtain ⟨ts, e, q⟩ := h
  exact .lst (SqL.of e) q.dp
theorem Tups.get {H : Hp} {ts : List Addr} {cs : List (Nat × Nat)} (h : Tups H ts cs) {i : Nat} {x : V} (e : (ts.map V.ref)[i]? = some x) : ∃ (t : Addr) (c : Nat × Nat), x = .ref t ∧ cs[i]? = some c ∧ H t = some (.tup [.int (c.1 : Int), .int (c.2 : Int)]) := by
  unfold Tups at h
  induction h generalizing i with
  | nil => simp at e
  | @cons a b l1 l2 h t ih =>
    cases i with
    | zero =>
      simp at e
      exact ⟨a, b, e.symm, rfl, h⟩
    | succ i =>
      simp only [List.map_cons, List.getElem?_cons_succ] at e ⊢
      exact ih e
end K7

/-! K7g: the law's window, its counts, its ends -/
namespace K7
open PySem L2 SX

def axV (far : Nat) : List V := (ax far).map fun n : Nat => V.int (n : Int)
theorem rg_ax (far : Nat) : rgV 1 11 ++ [V.int (far : Int)] = axV far := by
  have h : rgV 1 11 = ax10.map fun n => V.int ((n : Nat) : Int) := by decide +kernel
  rw [h]
  unfold axV ax
  rw [List.map_append]
  rfl
theorem take_snoc {α : Type} : ∀ {l : List α} {i : Nat} {x : α}, l[i]? = some x → l.take (i + 1) = l.take i ++ [x]
  | [], i, x, h => by simp at h
  | a :: r, 0, x, h => by
    have e : a = x := Option.some.inj h
    subst e
    rfl
  | a :: r, i + 1, x, h => by
    show a :: r.take (i + 1) = a :: (r.take i ++ [x])
    rw [take_snoc (l := r) (i := i) h]
theorem axV_get {far i : Nat} {v : V} (h : (axV far)[i]? = some v) : ∃ x : Nat, v = .int (x : Int) ∧ (ax far)[i]? = some x := by
  unfold axV at h
  rw [List.getElem?_map] at h
  cases e : (ax far)[i]? with
  | none => rw [e] at h; cases h
  | some x => rw [e] at h; exact ⟨x, (Option.some.inj h).symm, rfl⟩
theorem axV_len (far : Nat) : (axV far).length = 11 := by
  unfold axV ax
  rw [List.length_map, List.length_append]
  rfl
theorem ax_len (far : Nat) : (ax far).length = 11 := by
  unfold ax
  rw [List.length_append]
  rfl
/-- the axis of the window -/
theorem axis_read {σ : St} {H : Hp} {R : V → Hp → Prop} (far : Nat) (h : σ[1]? = some (some (.int (far : Int)))) (k : ∀ (p : Addr) (H' : Hp), H p = none → Same H H' → H' p = some (.lst (axV far)) → R (.ref p) H') :
    tOp rCat (tLstRg (tRg2 (tC (.int 1)) (tC (.int 11)))) (tLst (tCons (tVar 1) tNil)) σ H R := by
  refine ⟨_, _, rfl, rfl, RgOk.of_le (by decide) (by decide) (by decide) (by decide), fun q hq => ?_⟩
  refine ⟨_, h, (by show 1 ≤ sizeLine; decide), fun q2 hq2 => ?_⟩
  refine ⟨q, q2, rgV 1 11, [.int (far : Int)], rfl, rfl, by rw [upd_ne (ne_of_none upd_same hq2)]; exact upd_same, upd_same, ?_, fun p hp => ?_⟩
  · rw [rgV_length]
    exact Nat.le_of_lt (small1000 (show 10 + 1 ≤ 1000 by decide))
  · rw [rg_ax]
    have s1 : Same H (upd H q (.lst (rgV 1 11))) := same_new hq
    have s2 := same_upd (o := HO.lst [.int (far : Int)]) s1 (s1.free hq2)
    exact k p _ (s2.free hp) (same_upd s2 (s2.free hp)) upd_same

def spWindow (B : Addr) : Sp := fun vs H Q _ => ∃ (a : Addr) (far t l b r : Nat), vs = [.ref a, .int (far : Int)] ∧ BAt B H a t l b r ∧ Ok t l b r ∧ 1000000000 ≤ far ∧
  ∀ (p : Addr) (H' : Hp), H p = none → Same H H' → Cells H' p (W t l b r far) → Q (.ref p) H'
def spCounted (B : Addr) : Sp := fun vs H Q _ => ∃ (a p : Addr) (far t l b r : Nat), vs = [.ref a, .ref p, .int (far : Int)] ∧ BAt B H a t l b r ∧ Ok t l b r ∧ 1000000000 ≤ far ∧ Cells H p (W t l b r far) ∧
  ∀ H' : Hp, Same H H' → Q (.bl true) H'
def spBetween (B : Addr) : Sp := fun vs H Q _ => ∃ (a p : Addr) (t l b r : Nat) (cs : List (Nat × Nat)), vs = [.ref a, .ref p] ∧ BAt B H a t l b r ∧ Cells H p cs ∧ (∀ c ∈ cs, hasB t l b r c.1 c.2 = true) ∧ cs ≠ [] ∧
  ∀ H' : Hp, Same H H' → Q (.bl true) H'

section
variable {P : Program} {w : World} {K : PySem.W.Frag} {mg : Str → Option Value} {base : Heap} {B : Addr}

theorem scWindow : FnScope ["_law_block", "_law_far", "_law_found", "_law_row", "_law_column"] ["_law_block", "_law_far"] (C8.fnScope sWindow) := C8.fnScope_by (by decide +kernel)
theorem ok_window {f : Addr} {fd : FuncData} (F : C8.Def K mg "_law_window" sWindow f fd) (df : fd.defaults = .none) (T : Txt K mg B) (cH : C8.Met P w K mg base 5 B "has" (spHas B) []) : C8.Cal P w K mg base 6 "_law_window" (spWindow B) [] := by
  refine C8.cal0 F (F.fn.binds df (ps := ["_law_block", "_law_far"]) fun _ _ _ _ _ _ us hl => match us, hl with | [_, _], _ => rfl) .nil scWindow (fun vs H Q E h => ?_) (fun cdv A outer s H vs Q E hr h => ?_)
  · obtain ⟨a, far, t, l, b, r, rfl, _⟩ := h
    rfl
  · obtain ⟨a, far, t, l, b, r, rfl, hB, O, hf, k⟩ := h
    refine ⟨_, pss_cons (ps_set (i := 2) scWindow.nd rfl (Or.inl rfl) (pe_lst pa_nil))
      (pss_cons (ps_for PassesOwn.never rfl (pi_list (pe_op op_cat (pe_listRg rfl (by rfl) T.gList (prg_2 (by rfl) T.gRange pe_int pe_int)) (pe_lst (pa_cons (pv 1) pa_nil)))) (pg_name (i := 3) scWindow.nd rfl (Or.inl rfl))
        (pss_one (ps_for PassesOwn.never rfl (pi_list (pe_op op_cat (pe_listRg rfl (by rfl) T.gList (prg_2 (by rfl) T.gRange pe_int pe_int)) (pe_lst (pa_cons (pv 1) pa_nil)))) (pg_name (i := 4) scWindow.nd rfl (Or.inl rfl))
          (pss_one (ps_if (pt_val (C8.pe_mt cH hr (by decide) (pv 0) (pa_cons (pe_tup (pa_cons (pv 3) (pa_cons (pv 4) pa_nil))) pa_nil)))
            (pss_one (ps_expr (pe_bm PySem.F.plainAttrs_list PySem.F.slot_list_append PySem.F.type_list_append mt_append (pv 2) (pa_cons (pe_tup (pa_cons (pv 3) (pa_cons (pv 4) pa_nil))) pa_nil)))) pss_nil)))))
      (pss_one (ps_ret (pv 2)))), ?_⟩
    refine ⟨Nat.zero_le _, fun p np => ?_⟩
    have s0 : Same H (upd H p (.lst [])) := same_new np
    refine axis_read far rfl fun la Ha nla sa ea => ⟨la, rfl, ⟨_, SqL.of ea⟩, for_list (K := K) (a := la) (xs := axV far)
      (fun i σ H' => ∃ v3 v4 : Option V, σ = [some (.ref a), some (.int (far : Int)), some (.ref p), v3, v4] ∧ Same H H' ∧ H' la = some (.lst (axV far)) ∧ ∃ ts : List Addr, H' p = some (.lst (ts.map V.ref)) ∧ Tups H' ts (((ax far).take i).flatMap fun x => rowW t l b r x (ax far)) ∧ ts.length ≤ 11 * i)
      ⟨none, none, rfl, s0.trans sa, ea, [], sa _ _ upd_same, .nil, Nat.le_refl _⟩ (fun i σ H' _ q => by obtain ⟨_, _, _, _, e, _⟩ := q; exact SqL.of e) ?_ ?_⟩
    · rintro i v σ H1 hi ⟨v3, v4, rfl, s1, e1, ts, hp1, ht1, hlen⟩
      obtain ⟨x, rfl, hx⟩ := axV_get hi
      have hi11 : i < 11 := by
        have := (List.getElem?_eq_some_iff.mp hi).1
        rw [axV_len] at this
        exact this
      have hx1 : 1 ≤ x := ax_pos hf (List.mem_of_getElem? hx)
      refine axis_read far rfl fun lb Hb nlb sb eb => ⟨lb, rfl, ⟨_, SqL.of eb⟩, for_list (K := K) (a := lb) (xs := axV far)
        (fun j σ H' => ∃ v4 : Option V, σ = [some (.ref a), some (.int (far : Int)), some (.ref p), some (.int (x : Int)), v4] ∧ Same H H' ∧ H' la = some (.lst (axV far)) ∧ H' lb = some (.lst (axV far)) ∧
          ∃ ts : List Addr, H' p = some (.lst (ts.map V.ref)) ∧ Tups H' ts ((((ax far).take i).flatMap fun x => rowW t l b r x (ax far)) ++ rowW t l b r x ((ax far).take j)) ∧ ts.length ≤ 11 * i + j)
        ⟨v4, rfl, s1.trans sb, sb _ _ e1, eb, ts, sb _ _ hp1, ?_, hlen⟩ (fun j σ H' _ q => by obtain ⟨_, _, _, _, e, _⟩ := q; exact SqL.of e) ?_ ?_⟩
      · have : rowW t l b r x ((ax far).take 0) = [] := rfl
        rw [this, List.append_nil]
        exact ht1.same sb
      · rintro j v σ H2 hj ⟨v4, rfl, s2, e2, eb2, ts2, hp2, ht2, hlen2⟩
        obtain ⟨y, rfl, hy⟩ := axV_get hj
        have hj11 : j < 11 := by
          have := (List.getElem?_eq_some_iff.mp hj).1
          rw [axV_len] at this
          exact this
        have hy1 : 1 ≤ y := ax_pos hf (List.mem_of_getElem? hy)
        obtain ⟨dx, ha⟩ := hB.same s2
        have row : rowW t l b r x ((ax far).take (j + 1)) = rowW t l b r x ((ax far).take j) ++ (if hasB t l b r x y = true then [(x, y)] else []) := by
          unfold rowW
          rw [take_snoc hy, List.filter_append, List.map_append]
          cases hh : hasB t l b r x y with
          | true => rw [List.filter_cons_of_pos hh]; rfl
          | false => rw [List.filter_cons_of_neg (by rw [hh]; decide)]; rfl
        refine ⟨_, rfl, a, dx, _, rfl, ha, bf_has t l b r, _, rfl, _, rfl, (by show 2 ≤ sizeLine; decide), fun q hq => ?_⟩
        have sq : Same H2 (upd H2 q (.tup [.int (x : Int), .int (y : Int)])) := same_new hq
        refine ⟨a, q, t, l, b, r, x, y, rfl, (show BAt B H2 a t l b r from ⟨dx, ha⟩).same sq, upd_same, hx1, hy1, fun H3 s3 => ⟨_, rfl, ?_⟩⟩
        have s23 : Same H2 H3 := sq.trans s3
        cases hh : hasB t l b r x y with
        | false =>
          refine iteF ⟨_, rfl, s2.trans s23, s23 _ _ e2, s23 _ _ eb2, ts2, s23 _ _ hp2, ?_, by omega⟩
          rw [row, hh, if_neg Bool.false_ne_true, List.append_nil]
          exact ht2.same s23
        | true =>
          refine iteT ⟨_, rfl, .inl ⟨rfl, _, SqL.of (s23 _ _ hp2)⟩, _, rfl, _, rfl, (by show 2 ≤ sizeLine; decide), fun q2 hq2 => ?_⟩
          have sn : Same H3 (upd H3 q2 (.tup [.int (x : Int), .int (y : Int)])) := same_new hq2
          have hp3 := sn _ _ (s23 _ _ hp2)
          refine ⟨p, _, _, rfl, rfl, hp3, ?_, ?_⟩
          · rw [List.length_map]
            exact small1000 (by omega)
          · have nlap : la ≠ p := fun z => by rw [z] at nla; rw [upd_same] at nla; cases nla
            have nlbp : lb ≠ p := fun z => by rw [z, hp1] at nlb; cases nlb
            refine ⟨_, rfl, same_upd (s2.trans (s23.trans sn)) np, by rw [upd_ne nlap]; exact sn _ _ (s23 _ _ e2), by rw [upd_ne nlbp]; exact sn _ _ (s23 _ _ eb2), ts2 ++ [q2], ?_, ?_, ?_⟩
            · rw [upd_same, List.map_append]
              rfl
            · rw [row, hh, if_pos rfl, ← List.append_assoc]
              refine Tups.upd (ys := _) ?_ hp3
              exact Paired.snoc ((ht2.same s23).same sn) upd_same
            · rw [List.length_append]
              show ts2.length + 1 ≤ 11 * i + (j + 1)
              omega
      · rintro σ H2 ⟨v4', rfl, s2, e2, eb2, ts2, hp2, ht2, hlen2⟩
        refine ⟨_, _, rfl, s2, e2, ts2, hp2, ?_, by rw [axV_len] at hlen2; omega⟩
        rw [take_snoc hx, List.flatMap_append]
        have : (ax far).take (axV far).length = ax far := List.take_of_length_le (by rw [axV_len, ax_len]; exact Nat.le_refl _)
        rw [this] at ht2
        have e : [x].flatMap (fun x => rowW t l b r x (ax far)) = rowW t l b r x (ax far) := by
          rw [List.flatMap_cons, List.flatMap_nil, List.append_nil]
        rw [e]
        exact ht2
    · rintro σ H1 ⟨v3, v4, rfl, s1, e1, ts, hp1, ht1, hlen⟩
      have : (ax far).take (axV far).length = ax far := List.take_of_length_le (by rw [axV_len, ax_len]; exact Nat.le_refl _)
      rw [this] at ht1
      exact ⟨_, rfl, k p H1 np s1 ⟨ts, hp1, ht1⟩⟩

theorem scCounted : FnScope ["_law_block", "_law_cells", "_law_far", "_law_beyond", "_law_cell"] ["_law_block", "_law_cells", "_law_far"] (C8.fnScope sCounted) := C8.fnScope_by (by decide +kernel)
theorem ok_counted {f : Addr} {fd : FuncData} (F : C8.Def K mg "_law_counted" sCounted f fd) (df : fd.defaults = .none) (T : Txt K mg B) (cS : C8.Met P w K mg base 1 B "size" (spSize B) []) : C8.Cal P w K mg base 2 "_law_counted" (spCounted B) [] := by
  refine C8.cal0 F (F.fn.binds df (ps := ["_law_block", "_law_cells", "_law_far"]) fun _ _ _ _ _ _ us hl => match us, hl with | [_, _, _], _ => rfl) .nil scCounted (fun vs H Q E h => ?_) (fun cdv A outer s H vs Q E hr h => ?_)
  · obtain ⟨a, p, far, t, l, b, r, rfl, _⟩ := h
    rfl
  · obtain ⟨a, p, far, t, l, b, r, rfl, hB, O, hf, ⟨ts, hp, ht⟩, k⟩ := h
    refine ⟨_, pss_cons (ps_setLc (i := 3) (own := [("_law_cell", 4)]) (g := gName 4) rfl scCounted.nd rfl rfl (sw_true rfl rfl rfl (by decide +kernel)) (pi_list (pv 1))
        (blkOk_by (own := [("_law_cell", 4)]) (N := ["_law_block", "_law_cells", "_law_far", "_law_beyond", "_law_cell"]) (sc := C8.fnScope sCounted) (by decide +kernel)) (fun _ _ _ _ _ => pg_name (i := 4) scCounted.nd rfl (Or.inl rfl))
        (fun _ _ _ _ _ => pts_one (pt_cmpR (show OpR _ (compareOp .In) (rIn K false) from op_in_seq) (pv 2) (pv 4) (by rfl))) (fun _ _ _ _ _ => pv 4))
      (pss_cons (ps_if (pt_cmpR (op_neD hr.units) (pv 3) (pe_lst pa_nil) (nomark _)) (pss_one (ps_ret (pe_cmp (pc_isN (C8.pe_mt0 cS hr (by decide) (pv 0))) rfl))) pss_nil)
      (pss_one (ps_ret (pe_cmpR op_eq (C8.pe_mt0 cS hr (by decide) (pv 0)) (pe_callB call_len_seq (by rfl) T.gLen (by decide +kernel) (pa_cons (pv 1) pa_nil)) (nomark _))))), ?_⟩
    have tlen : ts.length = (W t l b r far).length := Paired.length ht
    refine ⟨_, rfl, p, rfl, ⟨_, SqL.of hp⟩, fun D nD => lc_list (K := K) (a := p) (xs := ts.map V.ref)
      (fun i H' => Same H H' ∧ ∃ us : List Addr, H' D = some (.lst (us.map V.ref)) ∧ Tups H' us (((W t l b r far).take i).filter (farC far)) ∧ us.length ≤ i) ⟨same_new nD, [], upd_same, .nil, Nat.le_refl _⟩ (fun i H' _ q => SqL.of (q.1 _ _ hp)) ?_ ?_⟩
    · rintro i v H1 hi ⟨s1, us, hD1, hu, hul⟩
      obtain ⟨q, c, rfl, hc, hq⟩ := ht.get hi
      have hil : i < ts.length := by
        have := (List.getElem?_eq_some_iff.mp hi).1
        rw [List.length_map] at this
        exact this
      have ein : inV (V.int (far : Int)) [.int (c.1 : Int), .int (c.2 : Int)] = farC far c := by
        unfold inV farC
        simp only [List.any_cons, List.any_nil, eqV, Bool.or_false]
        rw [Bool.eq_iff_iff]
        simp only [Bool.or_eq_true, beq_iff_eq, decide_eq_true_iff]
        omega
      refine ⟨rfl, _, rfl, _, rfl, q, _, rfl, .inr (SqT.of (s1 _ _ hq)), rfl, rfl, farC far c, congrArg V.bl ein, ?_⟩
      have lW : (W t l b r far).length ≤ 121 := by
        have e : W t l b r far = (ax far).flatMap fun x => ((ax far).filter fun y => inR t b x && inR l r y).map fun y => (x, y) := by
          unfold W rowW
          simp only [hasB_eq]
        rw [e, len_prod]
        have h1 := List.length_filter_le (inR t b) (ax far)
        have h2 := List.length_filter_le (inR l r) (ax far)
        rw [ax_len] at h1 h2
        exact Nat.le_trans (Nat.mul_le_mul h1 h2) (by decide)
      cases hh : farC far c with
      | true =>
        refine iteT ⟨_, rfl, _, hD1, ?_, same_upd s1 nD, us ++ [q], ?_, ?_, ?_⟩
        · rw [List.length_map]
          exact small1000 (by omega)
        · rw [upd_same, List.map_append]
          rfl
        · rw [take_snoc hc, List.filter_append, List.filter_cons_of_pos hh]
          refine Tups.upd (ys := _) ?_ hD1
          exact Paired.snoc hu (s1 _ _ hq)
        · rw [List.length_append]
          show us.length + 1 ≤ i + 1
          omega
      | false =>
        refine iteF ⟨s1, us, hD1, ?_, by omega⟩
        rw [take_snoc hc, List.filter_append, List.filter_cons_of_neg (by rw [hh]; decide)]
        show Tups H1 us (_ ++ [])
        rw [List.append_nil]
        exact hu
    · rintro H1 ⟨s1, us, hD1, hu, _⟩
      have etk : (W t l b r far).take (ts.map V.ref).length = W t l b r far := List.take_of_length_le (by rw [List.length_map, tlen]; exact Nat.le_refl _)
      rw [etk] at hu
      refine ⟨_, rfl, Nat.zero_le _, fun q nq => ?_⟩
      have sq : Same H1 (upd H1 q (.lst [])) := same_new nq
      have cD : Cells (upd H1 q (.lst [])) D ((W t l b r far).filter (farC far)) := (show Cells H1 D _ from ⟨us, hD1, hu⟩).same sq
      have hB2 : BAt B (upd H1 q (.lst [])) a t l b r := hB.same (s1.trans sq)
      obtain ⟨dx, ha⟩ := id hB2
      refine ⟨.list (((W t l b r far).filter (farC far)).map dC), .list (([] : List (Nat × Nat)).map dC), cD.dp, .lst (SqL.of upd_same) .nil, shape_cells _, shape_cells [], !decide ((W t l b r far).filter (farC far) = []), congrArg V.bl (congrArg (! ·) (eqv_lists _ [])), ?_⟩
      have bi := beyond_iff hf O
      by_cases hz : b = 0 ∨ r = 0
      · rw [decide_eq_false (fun z => bi.mp z hz)]
        refine iteT ⟨_, rfl, a, dx, _, rfl, ha, bf_size t l b r, a, t, l, b, r, rfl, hB2, O, ?_⟩
        have e : szV t l b r = .non := if_pos hz
        rw [e]
        exact k _ (s1.trans sq)
      · rw [decide_eq_true (bi.mpr hz)]
        refine iteF ⟨_, rfl, a, dx, _, rfl, ha, bf_size t l b r, a, t, l, b, r, rfl, hB2, O, ?_⟩
        refine ⟨_, rfl, p, _, rfl, .inl (SqL.of (sq _ _ (s1 _ _ hp))), ?_⟩
        have e : szV t l b r = .int ((szN t l b r : Nat) : Int) := if_neg hz
        rw [e, List.length_map, tlen, len_W hf O hz]
        refine ⟨rfl, ?_⟩
        rw [decide_eq_true rfl]
        exact k _ (s1.trans sq)

theorem scBetween : FnScope ["_law_one", "_law_here", "_law_row", "_law_column"] ["_law_one", "_law_here"] (C8.fnScope sBetween) := C8.fnScope_by (by decide +kernel)
theorem ok_between {f : Addr} {fd : FuncData} (F : C8.Def K mg "_law_between" sBetween f fd) (df : fd.defaults = .none) (T : Txt K mg B) : C8.Cal P w K mg base 1 "_law_between" (spBetween B) [] := by
  refine C8.cal0 F (F.fn.binds df (ps := ["_law_one", "_law_here"]) fun _ _ _ _ _ _ us hl => match us, hl with | [_, _], _ => rfl) .nil scBetween (fun vs H Q E h => ?_) (fun cdv A outer s H vs Q E hr h => ?_)
  · obtain ⟨a, p, t, l, b, r, cs, rfl, _⟩ := h
    rfl
  · obtain ⟨a, p, t, l, b, r, cs, rfl, ⟨dx, ha⟩, hC, hall, hne, k⟩ := h
    obtain ⟨ts, hp, ht⟩ := id hC
    refine ⟨_, pss_cons (ps_for PassesOwn.never rfl (pi_list (pv 1)) (pg_tup (by rfl) (pgs_cons (pg_name (i := 2) scBetween.nd rfl (Or.inl rfl)) (pgs_cons (pg_name (i := 3) scBetween.nd rfl (Or.inl rfl)) pgs_nil)))
        (pss_cons (ps_if (PW.pt (pw_or (pt_cmp (pc_lt (pv 2) (pe_fld (pv 0) rfl))) (pw_or1 (pt_cmp (pc_lt (pv 3) (pe_fld (pv 0) rfl)))))) (pss_one (ps_ret pe_bl)) pss_nil)
        (pss_one (ps_if (PW.pt (pw_or (PW.pt (pw_and (pt_cmp (pc_notN (pe_fld (pv 0) rfl))) (pw_and1 (pt_cmp (pc_gt (pv 2) (pe_fld (pv 0) rfl))))))
          (pw_or1 (PW.pt (pw_and (pt_cmp (pc_notN (pe_fld (pv 0) rfl))) (pw_and1 (pt_cmp (pc_gt (pv 3) (pe_fld (pv 0) rfl))))))))) (pss_one (ps_ret pe_bl)) pss_nil))))
      (pss_one (ps_ret (pe_cmpR (op_neD hr.units) (pv 1) (pe_lst pa_nil) (nomark _)))), ?_⟩
    refine ⟨_, rfl, p, rfl, ⟨_, SqL.of hp⟩, for_list (K := K) (a := p) (xs := ts.map V.ref) (fun i σ H' => H = H' ∧ ∃ v2 v3 : Option V, σ = [some (.ref a), some (.ref p), v2, v3]) ⟨rfl, none, none, rfl⟩ (fun i σ H' _ q => by rw [← q.1]; exact SqL.of hp) ?_ ?_⟩
    · rintro i v σ H1 hi ⟨rfl, v2, v3, rfl⟩
      obtain ⟨q, c, rfl, hc, hq⟩ := ht.get hi
      have hin := hasB_iff.mp (hall c (List.mem_of_getElem? hc))
      obtain ⟨⟨i1, i2⟩, i3, i4⟩ := hin
      refine ⟨q, _, rfl, SqT.of hq, rfl, _, _, rfl, _, _, rfl, rfl, ?_⟩
      refine ⟨_, rfl, _, rfl, a, B, dx, _, _, rfl, ha, T.cl, T.nT, bf_top t l b r, _, _, rfl, rfl, false, congrArg V.bl (decide_eq_false (show ¬ (c.1 : Int) < (t : Int) by omega)), iteF ?_⟩
      refine ⟨_, rfl, _, rfl, a, B, dx, _, _, rfl, ha, T.cl, T.nL, bf_left t l b r, _, _, rfl, rfl, false, congrArg V.bl (decide_eq_false (show ¬ (c.2 : Int) < (l : Int) by omega)), iteF ?_⟩
      have fin : ∀ R : Bool → Hp → Prop, R false H → tAnd (tB (tNotN (tFld K (tVar 0) "right"))) (tB (tGt (tVar 3) (tFld K (tVar 0) "right"))) [some (.ref a), some (.ref p), some (.int (c.1 : Int)), some (.int (c.2 : Int))] H R := fun R hR => by
        refine ⟨_, rfl, a, B, dx, _, _, rfl, ha, T.cl, T.nR, bf_right t l b r, !decide (r = 0), congrArg V.bl (congrArg (! ·) (eV_isN r)), ?_⟩
        by_cases h0 : r = 0
        · rw [decide_eq_true h0]
          exact iteF hR
        · rw [decide_eq_false h0]
          have hr2 := bf_right t l b r
          rw [eV_pos (show 1 ≤ r by omega)] at hr2
          exact iteT ⟨_, rfl, _, rfl, a, B, dx, _, _, rfl, ha, T.cl, T.nR, hr2, _, _, rfl, rfl, false, congrArg V.bl (decide_eq_false (show ¬ (r : Int) < (c.2 : Int) by omega)), hR⟩
      refine ⟨_, rfl, a, B, dx, _, _, rfl, ha, T.cl, T.nB, bf_bottom t l b r, !decide (b = 0), congrArg V.bl (congrArg (! ·) (eV_isN b)), ?_⟩
      by_cases h0 : b = 0
      · rw [decide_eq_true h0]
        exact iteF (iteF (fin _ (iteF ⟨rfl, _, _, rfl⟩)))
      · rw [decide_eq_false h0]
        have hb2 := bf_bottom t l b r
        rw [eV_pos (show 1 ≤ b by omega)] at hb2
        refine iteT ⟨_, rfl, _, rfl, a, B, dx, _, _, rfl, ha, T.cl, T.nB, hb2, _, _, rfl, rfl, false, congrArg V.bl (decide_eq_false (show ¬ (b : Int) < (c.1 : Int) by omega)), ?_⟩
        exact iteF (fin _ (iteF ⟨rfl, _, _, rfl⟩))
    · rintro σ H1 ⟨rfl, v2, v3, rfl⟩
      refine ⟨_, rfl, Nat.zero_le _, fun q nq => ?_⟩
      have sq : Same H (upd H q (.lst [])) := same_new nq
      refine ⟨.list (cs.map dC), .list (([] : List (Nat × Nat)).map dC), (hC.same sq).dp, .lst (SqL.of upd_same) .nil, shape_cells _, shape_cells [], ?_⟩
      rw [eqv_lists, decide_eq_false hne]
      exact k _ sq
end
end K7

/-! K7i: the law -/
namespace K7
open PySem L2 SX

theorem WellAt.ne {H : Hp} {p q : Addr} {xs : List V} (a : WellAt H p) (h : H q = some (.tup xs)) : q ≠ p := fun z => by
  obtain ⟨_, _, _, e⟩ := a
  rw [z, e] at h
  cases h
theorem ixT {K : PySem.W.Frag} {σ : St} {H : Hp} {p : Addr} {xs : List V} {v : V} {R : V → Hp → Prop} {z : Int} (j : Nat) (h : H p = some (.tup xs)) (hj : xs[j]? = some v) (k : R v H) (e : z = (j : Int) := by rfl) :
    tC (.int z) σ H fun y H2 => rIxT K (.ref p) y H2 R :=
  ⟨p, xs, z, v, rfl, rfl, SqT.of h, at_of e hj, k⟩
def spLaw (K : PySem.W.Frag) : Sp := fun vs H Q _ => ∃ (a : Addr) (ns : List Int), vs = [.ref a] ∧ SqL K H a (ns.map V.int) ∧ ns.length ≤ 63 ∧ ∀ H', Q (.bl true) H'
/-- behind the draws of a turn -/
def mid (H : Hp) (a : Addr) : St → Hp → Prop := fun σ' H' => ∃ (qf qv : Addr) (t l b r t' l' b' r' far : Nat) (v1 v2 v3 v4 v6 v9 v10 v11 v12 : Option V),
  σ' = [some (.ref a), v1, v2, v3, v4, some (.ref qf), v6, some (.ref qv), some (.int (far : Int)), v9, v10, v11, v12] ∧ Same H H' ∧
  H' qf = some (.tup [.int (t : Int), .int (l : Int), eV b, eV r]) ∧ H' qv = some (.tup [.int (t' : Int), .int (l' : Int), eV b', eV r']) ∧ Ok t l b r ∧ Ok t' l' b' r' ∧ 1000000000 ≤ far

section
variable {P : Program} {w : World} {K : PySem.W.Frag} {mg : Str → Option Value} {base : Heap} {B : Addr}
theorem scLaw : FnScope ["_law_script", "_law_cell", "_law_well_here", "_law_rows", "_law_columns", "_law_four", "_law_others", "_law_five", "_law_far", "_law_one", "_law_other", "_law_here", "_law_there"] ["_law_script"] (C8.fnScope sLaw) := C8.fnScope_by (by decide +kernel)

theorem ok_law {f fS fE fI : Addr} {fd fdS fdE fdI : FuncData} (F : C8.Fun K "law" "law" sLaw f fd) (T : Txt K mg B)
    (cW : C8.Cal P w K mg base 1 "_law_well" spWell []) (cE : C8.Cal P w K mg base 2 "_law_ends" spEnds []) (cN : C8.Cal P w K mg base 2 "_law_near" spNear []) (cD : C8.Cal P w K mg base 1 "_law_draw" spDraw [])
    (mB : C8.Mak P w K mg base 4 "Block" B (spInit B) []) (MI : Mk K B fI) (FI : FnOk P w K mg base C8.CX0 4 fI fdI ["self", "top", "left", "bottom", "right"] (spInit B))
    (kI : KBn K fdI ["self", "top", "left", "bottom", "right"] 3 ["bottom", "right"] (fun us ws => us ++ ws) (fun vs zs => vs ++ zs))
    (cWin : C8.Cal P w K mg base 6 "_law_window" (spWindow B) []) (cCo : C8.Cal P w K mg base 2 "_law_counted" (spCounted B) []) (cBe : C8.Cal P w K mg base 1 "_law_between" (spBetween B) [])
    (cBO : C8.Cal P w K mg base 8 "block_of" (spBlockOf B) [])
    (FS : FnOk P w K mg base C8.CX0 5 fS fdS ["self"] (spStr B)) (bS : Binds K fdS ["self"] []) (aS : PySem.W.findIn K (.ref B) "__str__" = some (some (.ref fS))) (iS : PySem.W.isFn K (.ref fS) = true)
    (FE : FnOk P w K mg base C8.CX0 1 fE fdE ["self", "other"] (spEq B)) (bE : Binds K fdE ["self", "other"] []) (aE : PySem.W.findIn K (.ref B) "__eq__" = some (some (.ref fE))) (iE : PySem.W.isFn K (.ref fE) = true) :
    FnOk P w K mg base C8.CX0 9 f fd ["_law_script"] (spLaw K) := by
  refine C8.fn0 F scLaw (fun vs H Q E h => ?_) (fun cdv A outer s H vs Q E hr h => ?_)
  · obtain ⟨a, ns, rfl, _⟩ := h
    rfl
  · obtain ⟨a, ns, rfl, hS, hlen, k⟩ := h
    have hr7 : Room 7 _ := hr.mono (by decide)
    have hr5 : Room 5 _ := hr.mono (by decide)
    have hr1 : Room 1 _ := hr.mono (by decide)
    refine ⟨_, pss_cons (ps_for PassesOwn.never rfl (pi_list (pe_op op_cat (pe_slice sl_list (pv 0) po_none (po_some pe_int)) (pe_lst (pa_cons pe_int (pa_cons pe_int pa_nil))))) (pg_name (i := 1) scLaw.nd rfl (Or.inl rfl))
        (pss_cons (ps_set (i := 2) scLaw.nd rfl (Or.inl rfl) (C8.pe_c cW hr (by decide) (by rfl) (pa_cons (pv 1) pa_nil)))
        (pss_cons (ps_set (i := 3) scLaw.nd rfl (Or.inl rfl) (C8.pe_c cE hr (by decide) (by rfl) (pa_cons (pv 2) pa_nil)))
        (pss_cons (ps_set (i := 4) scLaw.nd rfl (Or.inl rfl) (C8.pe_c cE hr (by decide) (by rfl) (pa_cons (pv 2) pa_nil)))
        (pss_cons (ps_set (i := 5) scLaw.nd rfl (Or.inl rfl) (pe_tup (pa_cons (pe_ix ix_tup (pv 3) pe_int (fun _ _ => rfl)) (pa_cons (pe_ix ix_tup (pv 4) pe_int (fun _ _ => rfl)) (pa_cons (pe_ix ix_tup (pv 3) pe_int (fun _ _ => rfl)) (pa_cons (pe_ix ix_tup (pv 4) pe_int (fun _ _ => rfl)) pa_nil))))))
        (pss_cons (ps_set (i := 6) scLaw.nd rfl (Or.inl rfl) (pe_tup (pa_cons (C8.pe_c cE hr (by decide) (by rfl) (pa_cons (pv 2) pa_nil)) (pa_cons (C8.pe_c cE hr (by decide) (by rfl) (pa_cons (pv 2) pa_nil)) pa_nil))))
        (pss_cons (ps_set (i := 7) scLaw.nd rfl (Or.inl rfl) (pe_ix ix_list (pe_lst (pa_cons (C8.pe_c cN hr (by decide) (by rfl) (pa_cons (pv 2) (pa_cons (pv 5) pa_nil)))
          (pa_cons (pe_tup (pa_cons (pe_ix ix_tup (pe_ix ix_tup (pv 6) pe_int (fun _ _ => rfl)) pe_int (fun _ _ => rfl)) (pa_cons (pe_ix ix_tup (pe_ix ix_tup (pv 6) pe_int (fun _ _ => rfl)) pe_int (fun _ _ => rfl))
            (pa_cons (pe_ix ix_tup (pe_ix ix_tup (pv 6) pe_int (fun _ _ => rfl)) pe_int (fun _ _ => rfl)) (pa_cons (pe_ix ix_tup (pe_ix ix_tup (pv 6) pe_int (fun _ _ => rfl)) pe_int (fun _ _ => rfl)) pa_nil))))) pa_nil)))
          (C8.pe_c cD hr (by decide) (by rfl) (pa_cons (pv 2) (pa_cons pe_int pa_nil))) (fun _ _ => rfl)))
        (C8.pss_cut (ps_set (i := 8) scLaw.nd rfl (Or.inl rfl) (pe_op op_add (pe_op op_pow pe_int pe_int) (C8.pe_c cD hr (by decide) (by rfl) (pa_cons (pv 2) (pa_cons (pe_op op_pow pe_int pe_int) pa_nil)))))
        (pss_cons (ps_set (i := 9) scLaw.nd rfl (Or.inl rfl) (C8.pe_mk mB hr (by decide) (by rfl) (pa_cons (pe_ix ix_tup (pv 5) pe_int (fun _ _ => rfl)) (pa_cons (pe_ix ix_tup (pv 5) pe_int (fun _ _ => rfl)) (pa_cons (pe_ix ix_tup (pv 5) pe_int (fun _ _ => rfl)) (pa_cons (pe_ix ix_tup (pv 5) pe_int (fun _ _ => rfl)) pa_nil))))))
        (pss_cons (ps_set (i := 10) scLaw.nd rfl (Or.inl rfl) (pe_makeN MI FI hr5 (by rfl) T.gBlock kI (C8.pass0 (E := C8.E0)) (pa_cons (pe_ix ix_tup (pv 7) pe_int (fun _ _ => rfl)) (pa_cons (pe_ix ix_tup (pv 7) pe_int (fun _ _ => rfl)) pa_nil))
          (pk_cons (pe_ix ix_tup (pv 7) pe_int (fun _ _ => rfl)) (pk_cons (pe_ix ix_tup (pv 7) pe_int (fun _ _ => rfl)) pk_nil))))
        (pss_cons (ps_set (i := 11) scLaw.nd rfl (Or.inl rfl) (C8.pe_c cWin hr (by decide) (by rfl) (pa_cons (pv 9) (pa_cons (pv 8) pa_nil))))
        (pss_cons (ps_set (i := 12) scLaw.nd rfl (Or.inl rfl) (C8.pe_c cWin hr (by decide) (by rfl) (pa_cons (pv 10) (pa_cons (pv 8) pa_nil))))
        (pss_cons (ps_if (PW.pt (pw_or (pt_not (pt_val (C8.pe_c cCo hr (by decide) (by rfl) (pa_cons (pv 9) (pa_cons (pv 11) (pa_cons (pv 8) pa_nil)))))) (pw_or1 (pt_not (pt_val (C8.pe_c cCo hr (by decide) (by rfl) (pa_cons (pv 10) (pa_cons (pv 12) (pa_cons (pv 8) pa_nil))))))))) (pss_one (ps_ret pe_bl)) pss_nil)
        (pss_cons (ps_if (PW.pt (pw_or (pt_not (pt_val (C8.pe_c cBe hr (by decide) (by rfl) (pa_cons (pv 9) (pa_cons (pv 11) pa_nil))))) (pw_or1 (pt_not (pt_val (C8.pe_c cBe hr (by decide) (by rfl) (pa_cons (pv 10) (pa_cons (pv 12) pa_nil)))))))) (pss_one (ps_ret pe_bl)) pss_nil)
        (pss_one (ps_if (PW.pt (pw_or (pt_cmpR op_ne (pe_cmpR (op_eqOwn FE aE iE bE hr1) (pv 9) (pv 10) (nomark _)) (pe_cmpR (op_eqD hr.units) (pv 11) (pv 12) (nomark _)) (nomark _))
          (pw_or1 (pt_cmpR (op_neD hr.units) (C8.pe_c cWin hr (by decide) (by rfl) (pa_cons (C8.pe_c cBO hr (by decide) (by rfl) (pa_cons (pe_callTy (call_strOwn FS aS iS bS hr7) (by rfl) T.gStr (by decide +kernel) (pa_cons (pv 9) pa_nil)) pa_nil)) (pa_cons (pv 8) pa_nil))) (pv 11) (nomark _))))) (pss_one (ps_ret pe_bl)) pss_nil))))))))))))))))
      (pss_one (ps_ret pe_bl)), ?_⟩
    -- the numbers of the turns
    refine ⟨_, rfl, _, rfl, a, _, rfl, hS, fun p1 n1 => ⟨by show 2 ≤ sizeLine; decide, fun p2 n2 => ?_⟩⟩
    have s1 : Same H (upd H p1 (.lst (cutV (ns.map V.int) none (some 10)))) := same_new n1
    have s2 : Same H (upd (upd H p1 (.lst (cutV (ns.map V.int) none (some 10)))) p2 (.lst [.int 4, .int 7])) := same_upd s1 (s1.free n2)
    refine ⟨p1, p2, _, _, rfl, rfl, by rw [upd_ne (ne_of_none upd_same n2)]; exact upd_same, upd_same, ?_, fun lp np => ?_⟩
    · have := cutV_length (ns.map V.int) none (some 10)
      rw [List.length_map] at this
      show (cutV (ns.map V.int) none (some 10)).length + 2 ≤ sizeLine
      exact Nat.le_of_lt (small1000 (by omega))
    have allInt : ∀ v ∈ cutV (ns.map V.int) none (some 10) ++ [V.int 4, V.int 7], ∃ z : Int, v = .int z := by
      intro v hv
      rcases List.mem_append.mp hv with hv | hv
      · unfold cutV at hv
        have h1 := List.mem_of_mem_drop (List.mem_of_mem_take hv)
        obtain ⟨z, _, e⟩ := List.mem_map.mp h1
        exact ⟨z, e.symm⟩
      · rcases List.mem_cons.mp hv with rfl | hv
        · exact ⟨4, rfl⟩
        · rcases List.mem_cons.mp hv with rfl | hv
          · exact ⟨7, rfl⟩
          · cases hv
    have s3 : Same H (upd (upd (upd H p1 (.lst (cutV (ns.map V.int) none (some 10)))) p2 (.lst [.int 4, .int 7])) lp (.lst (cutV (ns.map V.int) none (some 10) ++ [V.int 4, V.int 7]))) := same_upd s2 (s2.free np)
    have hlp : upd (upd (upd H p1 (.lst (cutV (ns.map V.int) none (some 10)))) p2 (.lst [.int 4, .int 7])) lp (.lst (cutV (ns.map V.int) none (some 10) ++ [V.int 4, V.int 7])) lp = some (.lst (cutV (ns.map V.int) none (some 10) ++ [V.int 4, V.int 7])) := upd_same
    revert s3 hlp
    generalize upd (upd (upd H p1 (.lst (cutV (ns.map V.int) none (some 10)))) p2 (.lst [.int 4, .int 7])) lp (.lst (cutV (ns.map V.int) none (some 10) ++ [V.int 4, V.int 7])) = H0
    intro s3 hlp
    refine ⟨lp, rfl, ⟨_, SqL.of hlp⟩, for_list (K := K) (a := lp) (xs := cutV (ns.map V.int) none (some 10) ++ [V.int 4, V.int 7])
      (fun i σ H' => Same H0 H' ∧ ∃ v1 v2 v3 v4 v5 v6 v7 v8 v9 v10 v11 v12 : Option V, σ = [some (.ref a), v1, v2, v3, v4, v5, v6, v7, v8, v9, v10, v11, v12]) ⟨Same.refl _, _, _, _, _, _, _, _, _, _, _, _, _, rfl⟩ (fun i σ H' _ q => SqL.of (q.1 _ _ hlp)) ?_ ?_⟩
    · rintro i v σ H1 hi ⟨sH, v1, v2, v3, v4, v5, v6, v7, v8, v9, v10, v11, v12, rfl⟩
      obtain ⟨z, rfl⟩ := allInt v (List.mem_of_getElem? hi)
      -- the well
      refine ⟨_, rfl, z, rfl, fun p Hw npw sw ww => ?_⟩
      -- rows, columns
      refine ⟨_, rfl, p, rfl, ww, fun H2 q1 f1 e1 w2 b2 h2 f1a f1b e1b fe1 => ?_⟩
      refine ⟨_, rfl, p, rfl, w2, fun H3 q2 f2 e2 w3 b3 h3 f2a f2b e2b fe2 => ?_⟩
      have hq1 := b3 _ _ h2 (w2.ne h2)
      -- four
      refine ⟨_, rfl, ixT 0 hq1 rfl ⟨_, rfl, ixT 0 h3 rfl ⟨_, rfl, ixT 1 hq1 rfl ⟨_, rfl, ixT 1 h3 rfl ⟨by show 4 ≤ sizeLine; decide, fun qf nqf => ?_⟩⟩⟩⟩⟩
      have wf : WellAt (upd H3 qf (.tup [.int (f1 : Int), .int (f2 : Int), eV e1, eV e2])) p := w3.new nqf
      have hqf : upd H3 qf (.tup [.int (f1 : Int), .int (f2 : Int), eV e1, eV e2]) qf = some (.tup [.int (f1 : Int), .int (f2 : Int), eV e1, eV e2]) := upd_same
      have bf : But Hw (upd H3 qf (.tup [.int (f1 : Int), .int (f2 : Int), eV e1, eV e2])) p := (b2.trans b3).new nqf
      revert wf hqf bf
      generalize upd H3 qf (.tup [.int (f1 : Int), .int (f2 : Int), eV e1, eV e2]) = H4
      intro wf hqf bf
      -- others
      refine ⟨_, rfl, p, rfl, wf, fun H5 q3 f3 e3 w5 b5 h5 f3a f3b e3b fe3 => ⟨_, rfl, p, rfl, w5, fun H6 q4 f4 e4 w6 b6 h6 f4a f4b e4b fe4 => ⟨by show 2 ≤ sizeLine; decide, fun qo nqo => ?_⟩⟩⟩
      have hq3 := b6 _ _ h5 (w5.ne h5)
      have so : Same H6 (upd H6 qo (.tup [.ref q3, .ref q4])) := same_new nqo
      have hqo : upd H6 qo (.tup [.ref q3, .ref q4]) qo = some (.tup [.ref q3, .ref q4]) := upd_same
      revert so hqo
      generalize upd H6 qo (.tup [.ref q3, .ref q4]) = H7
      intro so hqo
      have w7 := w6.same so
      have b7 : But H4 H7 p := (b5.trans b6).trans (Same.but so)
      have hqf7 := b7 _ _ hqf (wf.ne hqf)
      -- five
      refine ⟨_, rfl, _, rfl, p, qf, f1, f2, e1, e2, rfl, w7, hqf7, ⟨f1a, f1b, f2a, f2b, e1b, e2b, fe1, fe2⟩, fun H8 z1 t1 l1 b1 r1 w8 b8 h8 O1 => ?_⟩
      have ho8 := b8 _ _ hqo (w7.ne hqo)
      have h38 := b8 _ _ (so _ _ hq3) (w7.ne (so _ _ hq3))
      have h48 := b8 _ _ (so _ _ h6) (w7.ne (so _ _ h6))
      refine ⟨_, rfl, ixT 0 ho8 rfl (ixT 0 h38 rfl ⟨_, rfl, ixT 1 ho8 rfl (ixT 0 h48 rfl ⟨_, rfl, ixT 0 ho8 rfl (ixT 1 h38 rfl ⟨_, rfl, ixT 1 ho8 rfl (ixT 1 h48 rfl ⟨by show 4 ≤ sizeLine; decide, fun z2 nz2 => ⟨by show 2 ≤ sizeLine; decide, fun L nL => ?_⟩⟩)⟩)⟩)⟩)⟩
      have sz : Same H8 (upd H8 z2 (.tup [.int (f3 : Int), .int (f4 : Int), eV e3, eV e4])) := same_new nz2
      have sL : Same H8 (upd (upd H8 z2 (.tup [.int (f3 : Int), .int (f4 : Int), eV e3, eV e4])) L (.lst [.ref z1, .ref z2])) := same_upd sz (sz.free nL)
      have hz2 : upd (upd H8 z2 (.tup [.int (f3 : Int), .int (f4 : Int), eV e3, eV e4])) L (.lst [.ref z1, .ref z2]) z2 = some (.tup [.int (f3 : Int), .int (f4 : Int), eV e3, eV e4]) := by rw [upd_ne (ne_of_none upd_same nL)]; exact upd_same
      have hL : upd (upd H8 z2 (.tup [.int (f3 : Int), .int (f4 : Int), eV e3, eV e4])) L (.lst [.ref z1, .ref z2]) L = some (.lst [.ref z1, .ref z2]) := upd_same
      have hL8 : H8 L = none := sz.free nL
      revert sL hz2 hL
      generalize upd (upd H8 z2 (.tup [.int (f3 : Int), .int (f4 : Int), eV e3, eV e4])) L (.lst [.ref z1, .ref z2]) = H9
      intro sL hz2 hL
      have w9 := w8.same sL
      have npL : L ≠ p := fun y => by
        obtain ⟨_, _, _, e⟩ := w8
        rw [y, e] at hL8
        cases hL8
      refine ⟨_, rfl, p, 2, rfl, w9, by decide, by decide, fun H10 n w10 b10 hn => ?_⟩
      have hL10 := b10 _ _ hL npL
      have hz1' := b10 _ _ (sL _ _ h8) (w9.ne (sL _ _ h8))
      have hz2' := b10 _ _ hz2 (w9.ne hz2)
      have b48 : But H4 H8 p := b7.trans b8
      have b410 : But H4 H10 p := (b48.trans (Same.but sL)).trans b10
      have hqf10 := b410 _ _ hqf (wf.ne hqf)
      have pick : ∃ (qv : Addr) (t' l' b' r' : Nat), [V.ref z1, V.ref z2][n]? = some (.ref qv) ∧ H10 qv = some (.tup [.int (t' : Int), .int (l' : Int), eV b', eV r']) ∧ Ok t' l' b' r' := by
        match n, hn with
        | 0, _ => exact ⟨z1, t1, l1, b1, r1, rfl, hz1', O1⟩
        | 1, _ => exact ⟨z2, f3, f4, e3, e4, rfl, hz2', O8.ok ⟨f3a, f3b, f4a, f4b, e3b, e4b, fe3, fe4⟩⟩
      obtain ⟨qv, t', l', b', r', hpick, hqv, O'⟩ := pick
      refine ix3 n hL10 hpick ?_
      -- far
      have e9 : (10 : Int) ^ (9 : Int).toNat = ((1000000000 : Nat) : Int) := by decide
      have sAll : Same H0 Hw := Same.trans sH sw
      have bAll : But Hw H10 p := bf.trans b410
      refine ⟨mid H0 a, ?_, ?_⟩
      · refine ⟨_, _, rfl, rfl, ⟨by decide, by decide, by decide⟩, _, rfl, _, _, rfl, rfl, ⟨by decide, by decide, by decide⟩, p, 1000000000, congrArg (fun y => [V.ref p, V.int y]) e9, w10, by decide, by decide, fun H11 m w11 b11 hm => ⟨_, _, rfl, rfl, ?_⟩⟩
        have bT : But H1 H11 p := (Same.but sw).trans (bAll.trans b11)
        refine ⟨qf, qv, f1, f2, e1, e2, t', l', b', r', 1000000000 + m, some (.int z), some (.ref p), some (.ref q1), some (.ref q2), some (.ref qo), v9, v10, v11, v12, ?_, Same.trans sH (bT.same npw), b11 _ _ hqf10 (w10.ne hqf10), b11 _ _ hqv (w10.ne hqv), O8.ok ⟨f1a, f1b, f2a, f2b, e1b, e2b, fe1, fe2⟩, O', by omega⟩
        have e10 : (10 : Int) ^ (9 : Int).toNat + (m : Int) = ((1000000000 + m : Nat) : Int) := by rw [e9]; omega
        rw [← e10]
        rfl
      -- the blocks
      rintro σ2 G0 ⟨qf, qv, t, l, b, r, t', l', b', r', far, v1, v2, v3, v4, v6, v9, v10, v11, v12, rfl, sG, hf5, hv5, O, O', hfar⟩
      refine ⟨_, rfl, ixT 0 hf5 rfl ⟨_, rfl, ixT 1 hf5 rfl ⟨_, rfl, ixT 2 hf5 rfl ⟨_, rfl, ixT 3 hf5 rfl fun x dx nx ndx nex => ⟨x, dx, t, l, b, r, rfl, upd_same, O, fun G1 hB1 kp1 => ⟨rfl, ?_⟩⟩⟩⟩⟩⟩
      have sG1 : Same G0 G1 := Same.made nx ndx kp1
      have hv6 := sG1 _ _ hv5
      refine ⟨_, rfl, ixT 0 hv6 rfl ⟨_, rfl, ixT 1 hv6 rfl ⟨_, rfl, ixT 2 hv6 rfl ⟨_, rfl, ixT 3 hv6 rfl ⟨rfl, rfl, fun y dy ny ndy ney => ⟨y, dy, t', l', b', r', rfl, upd_same, O', fun G2 hB2 kp2 => ⟨rfl, ?_⟩⟩⟩⟩⟩⟩⟩
      have sG2 : Same G1 G2 := Same.made ny ndy kp2
      have hB1' := hB1.same sG2
      -- the windows
      refine ⟨_, rfl, _, rfl, x, far, t, l, b, r, rfl, hB1', O, hfar, fun p3 G3 np3 sG3 c3 => ?_⟩
      refine ⟨_, rfl, _, rfl, y, far, t', l', b', r', rfl, hB2.same sG3, O', hfar, fun p4 G4 np4 sG4 c4 => ?_⟩
      have c3' := c3.same sG4
      have s24 : Same G2 G4 := Same.trans sG3 sG4
      have hB1'' := hB1'.same s24
      have hB2'' := hB2.same s24
      -- counted
      refine ⟨_, rfl, _, rfl, _, rfl, x, p3, far, t, l, b, r, rfl, hB1'', O, hfar, c3', fun G5 s5 => ⟨true, rfl, iteF ?_⟩⟩
      refine ⟨_, rfl, _, rfl, _, rfl, y, p4, far, t', l', b', r', rfl, hB2''.same s5, O', hfar, c4.same s5, fun G6 s6 => ⟨true, rfl, iteF ?_⟩⟩
      have s46 : Same G4 G6 := Same.trans s5 s6
      -- between
      refine ⟨_, rfl, _, rfl, x, p3, t, l, b, r, _, rfl, hB1''.same s46, c3'.same s46, fun c hc => (mem_W.mp hc).2.2, W_ne far O, fun G7 s7 => ⟨true, rfl, iteF ?_⟩⟩
      refine ⟨_, rfl, _, rfl, y, p4, t', l', b', r', _, rfl, (hB2''.same s46).same s7, (c4.same s46).same s7, fun c hc => (mem_W.mp hc).2.2, W_ne far O', fun G8 s8 => ⟨true, rfl, iteF ?_⟩⟩
      have s48 : Same G4 G8 := Same.trans s46 (Same.trans s7 s8)
      -- ==
      obtain ⟨d1, hx1⟩ := hB1''.same s48
      obtain ⟨d2, hy1⟩ := hB2''.same s48
      refine ⟨_, rfl, _, rfl, x, y, d1, d2, _, _, rfl, rfl, hx1, hy1, x, y, t, l, b, r, t', l', b', r', rfl, ⟨d1, hx1⟩, ⟨d2, hy1⟩, fun G9 s9 => ?_⟩
      have s49 : Same G4 G9 := Same.trans s48 s9
      refine ⟨_, rfl, _, rfl, _, _, (c3'.same s49).dp, (c4.same s49).dp, shape_cells _, shape_cells _, ?_⟩
      rw [eqv_lists]
      have eW : decide (t = t' ∧ l = l' ∧ b = b' ∧ r = r') = decide (W t l b r far = W t' l' b' r' far) := decide_eq_decide.mpr (W_inj hfar O O')
      refine ⟨rfl, _, rfl, ?_⟩
      rw [eW, decide_eq_true (show V.bl (decide (W t l b r far = W t' l' b' r' far)) = V.bl (decide (W t l b r far = W t' l' b' r' far)) from rfl)]
      refine iteF ?_
      -- the text
      have hB9 := hB1''.same s49
      obtain ⟨d3, hx3⟩ := id hB9
      refine ⟨_, rfl, x, d3, _, rfl, hx3, x, t, l, b, r, rfl, hB9, O, fun Ga sa => ⟨_, rfl, t, l, b, r, rfl, O, fun xb Gb sb hBb => ⟨_, rfl, xb, far, t, l, b, r, rfl, hBb, O, hfar, fun pw Gc npw sc cc => ?_⟩⟩⟩
      have s4c : Same G4 Gc := Same.trans s49 (Same.trans sa (Same.trans sb sc))
      refine ⟨_, rfl, _, _, cc.dp, (c3'.same s4c).dp, shape_cells _, shape_cells _, false, ?_, iteF ?_⟩
      · rw [eqv_lists, decide_eq_true rfl]
        rfl
      · exact ⟨Same.trans sG (Same.trans sG1 (Same.trans sG2 (Same.trans s24 s4c))), _, _, _, _, _, _, _, _, _, _, _, _, rfl⟩
    · rintro σ H1 ⟨sH, v1, v2, v3, v4, v5, v6, v7, v8, v9, v10, v11, v12, rfl⟩
      exact k H1
end
end K7

/-! K7j: the end (printed by gen_end.py) -/
namespace K7
open PySem L2 SX
theorem kit_self {K : PySem.W.Frag} {C : Addr} : PySem.W.kitOne K (.ref C) (.ref C) = some true := by
  unfold PySem.W.kitOne
  rw [if_pos (by simp)]
theorem facts {l : PySem.W.OpenLaw} {w : World} {K : PySem.W.Frag} {h : Heap} {mg : Str → Option Value} {fa B TD : Addr} (X : K.In h) (G : h.Ns mainGlobals mg) (hfa : mg "law" = some (.ref fa))
    {f_whole : Addr} {od_whole an_whole : Option Addr} {sl_whole : Array (Option Value)} {oc_whole kV_whole dc_whole pm_whole cd_whole ct_whole : Value}
    {f_count : Addr} {od_count an_count : Option Addr} {sl_count : Array (Option Value)} {oc_count kV_count dc_count pm_count cd_count ct_count : Value}
    {f_cell : Addr} {od_cell an_cell : Option Addr} {sl_cell : Array (Option Value)} {oc_cell kV_cell dc_cell pm_cell cd_cell ct_cell : Value}
    {f_checked : Addr} {od_checked an_checked : Option Addr} {sl_checked : Array (Option Value)} {oc_checked kV_checked dc_checked pm_checked cd_checked ct_checked : Value}
    {f_lett : Addr} {od_lett an_lett : Option Addr} {sl_lett : Array (Option Value)} {oc_lett kV_lett dc_lett pm_lett cd_lett ct_lett : Value}
    {f_numb : Addr} {od_numb an_numb : Option Addr} {sl_numb : Array (Option Value)} {oc_numb kV_numb dc_numb pm_numb cd_numb ct_numb : Value}
    {f_isend : Addr} {od_isend an_isend : Option Addr} {sl_isend : Array (Option Value)} {oc_isend kV_isend dc_isend pm_isend cd_isend ct_isend : Value}
    {f_isrow : Addr} {od_isrow an_isrow : Option Addr} {sl_isrow : Array (Option Value)} {oc_isrow kV_isrow dc_isrow pm_isrow cd_isrow ct_isrow : Value}
    {f_iscol : Addr} {od_iscol an_iscol : Option Addr} {sl_iscol : Array (Option Value)} {oc_iscol kV_iscol dc_iscol pm_iscol cd_iscol ct_iscol : Value}
    {f_ahead : Addr} {od_ahead an_ahead : Option Addr} {sl_ahead : Array (Option Value)} {oc_ahead kV_ahead dc_ahead pm_ahead cd_ahead ct_ahead : Value}
    {f_byends : Addr} {od_byends an_byends : Option Addr} {sl_byends : Array (Option Value)} {oc_byends kV_byends dc_byends pm_byends cd_byends ct_byends : Value}
    {f_rowt : Addr} {od_rowt an_rowt : Option Addr} {sl_rowt : Array (Option Value)} {oc_rowt kV_rowt dc_rowt pm_rowt cd_rowt ct_rowt : Value}
    {f_colt : Addr} {od_colt an_colt : Option Addr} {sl_colt : Array (Option Value)} {oc_colt kV_colt dc_colt pm_colt cd_colt ct_colt : Value}
    {f_counto : Addr} {od_counto an_counto : Option Addr} {sl_counto : Array (Option Value)} {oc_counto kV_counto dc_counto pm_counto cd_counto ct_counto : Value}
    {f_parted : Addr} {od_parted an_parted : Option Addr} {sl_parted : Array (Option Value)} {oc_parted kV_parted dc_parted pm_parted cd_parted ct_parted : Value}
    {f_blocko : Addr} {od_blocko an_blocko : Option Addr} {sl_blocko : Array (Option Value)} {oc_blocko kV_blocko dc_blocko pm_blocko cd_blocko ct_blocko : Value}
    {f_well : Addr} {od_well an_well : Option Addr} {sl_well : Array (Option Value)} {oc_well kV_well dc_well pm_well cd_well ct_well : Value}
    {f_draw : Addr} {od_draw an_draw : Option Addr} {sl_draw : Array (Option Value)} {oc_draw kV_draw dc_draw pm_draw cd_draw ct_draw : Value}
    {f_ends : Addr} {od_ends an_ends : Option Addr} {sl_ends : Array (Option Value)} {oc_ends kV_ends dc_ends pm_ends cd_ends ct_ends : Value}
    {f_near : Addr} {od_near an_near : Option Addr} {sl_near : Array (Option Value)} {oc_near kV_near dc_near pm_near cd_near ct_near : Value}
    {f_window : Addr} {od_window an_window : Option Addr} {sl_window : Array (Option Value)} {oc_window kV_window dc_window pm_window cd_window ct_window : Value}
    {f_counted : Addr} {od_counted an_counted : Option Addr} {sl_counted : Array (Option Value)} {oc_counted kV_counted dc_counted pm_counted cd_counted ct_counted : Value}
    {f_between : Addr} {od_between an_between : Option Addr} {sl_between : Array (Option Value)} {oc_between kV_between dc_between pm_between cd_between ct_between : Value}
    {f_law : Addr} {od_law an_law : Option Addr} {sl_law : Array (Option Value)} {oc_law kV_law dc_law pm_law cd_law ct_law : Value}
    {f_ini : Addr} {od_ini an_ini : Option Addr} {sl_ini : Array (Option Value)} {oc_ini kV_ini dc_ini pm_ini cd_ini ct_ini : Value}
    {f_equ : Addr} {od_equ an_equ : Option Addr} {sl_equ : Array (Option Value)} {oc_equ kV_equ dc_equ pm_equ cd_equ ct_equ : Value}
    {f_stri : Addr} {od_stri an_stri : Option Addr} {sl_stri : Array (Option Value)} {oc_stri kV_stri dc_stri pm_stri cd_stri ct_stri : Value}
    {f_has : Addr} {od_has an_has : Option Addr} {sl_has : Array (Option Value)} {oc_has kV_has dc_has pm_has cd_has ct_has : Value}
    {f_size : Addr} {od_size an_size : Option Addr} {sl_size : Array (Option Value)} {oc_size kV_size dc_size pm_size cd_size ct_size : Value}
    {xL xF : Str} {tL tF tN tM t1 t2 : Tok} {cT : Value} {dT : Option Addr} {nT : Nat} {slT : Array (Option Value)}
    (aB : PySem.W.nsIn K mainGlobals "Block" = some (some (.ref B)))
    (a_whole : PySem.W.nsIn K mainGlobals "is_whole" = some (some (.ref f_whole)))
    (l_whole : K.lookup f_whole = some ⟨oc_whole, od_whole, .func (PySem.W.fnOf "is_whole" "is_whole" (C8.fnArgs sWhole) (C8.fnBody sWhole) (C8.fnScope sWhole) .none kV_whole dc_whole pm_whole an_whole cd_whole ct_whole), sl_whole⟩)
    (c_whole : PySem.W.codeIn K cd_whole "is_whole" = true)
    (k_whole : PySem.W.keepIn K (.ref f_whole) = true)
    (a_count : PySem.W.nsIn K mainGlobals "is_count" = some (some (.ref f_count)))
    (l_count : K.lookup f_count = some ⟨oc_count, od_count, .func (PySem.W.fnOf "is_count" "is_count" (C8.fnArgs sCount) (C8.fnBody sCount) (C8.fnScope sCount) .none kV_count dc_count pm_count an_count cd_count ct_count), sl_count⟩)
    (c_count : PySem.W.codeIn K cd_count "is_count" = true)
    (k_count : PySem.W.keepIn K (.ref f_count) = true)
    (a_cell : PySem.W.nsIn K mainGlobals "is_cell" = some (some (.ref f_cell)))
    (l_cell : K.lookup f_cell = some ⟨oc_cell, od_cell, .func (PySem.W.fnOf "is_cell" "is_cell" (C8.fnArgs sCell) (C8.fnBody sCell) (C8.fnScope sCell) .none kV_cell dc_cell pm_cell an_cell cd_cell ct_cell), sl_cell⟩)
    (c_cell : PySem.W.codeIn K cd_cell "is_cell" = true)
    (k_cell : PySem.W.keepIn K (.ref f_cell) = true)
    (a_checked : PySem.W.nsIn K mainGlobals "checked_cell" = some (some (.ref f_checked)))
    (l_checked : K.lookup f_checked = some ⟨oc_checked, od_checked, .func (PySem.W.fnOf "checked_cell" "checked_cell" (C8.fnArgs sChecked) (C8.fnBody sChecked) (C8.fnScope sChecked) .none kV_checked dc_checked pm_checked an_checked cd_checked ct_checked), sl_checked⟩)
    (c_checked : PySem.W.codeIn K cd_checked "checked_cell" = true)
    (k_checked : PySem.W.keepIn K (.ref f_checked) = true)
    (a_lett : PySem.W.nsIn K mainGlobals "letters_of" = some (some (.ref f_lett)))
    (l_lett : K.lookup f_lett = some ⟨oc_lett, od_lett, .func (PySem.W.fnOf "letters_of" "letters_of" (C8.fnArgs sLettersOf) (C8.fnBody sLettersOf) (C8.fnScope sLettersOf) .none kV_lett dc_lett pm_lett an_lett cd_lett ct_lett), sl_lett⟩)
    (c_lett : PySem.W.codeIn K cd_lett "letters_of" = true)
    (k_lett : PySem.W.keepIn K (.ref f_lett) = true)
    (a_numb : PySem.W.nsIn K mainGlobals "number_of" = some (some (.ref f_numb)))
    (l_numb : K.lookup f_numb = some ⟨oc_numb, od_numb, .func (PySem.W.fnOf "number_of" "number_of" (C8.fnArgs sNumberOf) (C8.fnBody sNumberOf) (C8.fnScope sNumberOf) .none kV_numb dc_numb pm_numb an_numb cd_numb ct_numb), sl_numb⟩)
    (c_numb : PySem.W.codeIn K cd_numb "number_of" = true)
    (k_numb : PySem.W.keepIn K (.ref f_numb) = true)
    (a_isend : PySem.W.nsIn K mainGlobals "is_end" = some (some (.ref f_isend)))
    (l_isend : K.lookup f_isend = some ⟨oc_isend, od_isend, .func (PySem.W.fnOf "is_end" "is_end" (C8.fnArgs sEnd) (C8.fnBody sEnd) (C8.fnScope sEnd) .none kV_isend dc_isend pm_isend an_isend cd_isend ct_isend), sl_isend⟩)
    (c_isend : PySem.W.codeIn K cd_isend "is_end" = true)
    (k_isend : PySem.W.keepIn K (.ref f_isend) = true)
    (a_isrow : PySem.W.nsIn K mainGlobals "is_rows" = some (some (.ref f_isrow)))
    (l_isrow : K.lookup f_isrow = some ⟨oc_isrow, od_isrow, .func (PySem.W.fnOf "is_rows" "is_rows" (C8.fnArgs sRows) (C8.fnBody sRows) (C8.fnScope sRows) .none kV_isrow dc_isrow pm_isrow an_isrow cd_isrow ct_isrow), sl_isrow⟩)
    (c_isrow : PySem.W.codeIn K cd_isrow "is_rows" = true)
    (k_isrow : PySem.W.keepIn K (.ref f_isrow) = true)
    (a_iscol : PySem.W.nsIn K mainGlobals "is_columns" = some (some (.ref f_iscol)))
    (l_iscol : K.lookup f_iscol = some ⟨oc_iscol, od_iscol, .func (PySem.W.fnOf "is_columns" "is_columns" (C8.fnArgs sColumns) (C8.fnBody sColumns) (C8.fnScope sColumns) .none kV_iscol dc_iscol pm_iscol an_iscol cd_iscol ct_iscol), sl_iscol⟩)
    (c_iscol : PySem.W.codeIn K cd_iscol "is_columns" = true)
    (k_iscol : PySem.W.keepIn K (.ref f_iscol) = true)
    (a_ahead : PySem.W.nsIn K mainGlobals "letters_ahead" = some (some (.ref f_ahead)))
    (l_ahead : K.lookup f_ahead = some ⟨oc_ahead, od_ahead, .func (PySem.W.fnOf "letters_ahead" "letters_ahead" (C8.fnArgs sAhead) (C8.fnBody sAhead) (C8.fnScope sAhead) .none kV_ahead dc_ahead pm_ahead an_ahead cd_ahead ct_ahead), sl_ahead⟩)
    (c_ahead : PySem.W.codeIn K cd_ahead "letters_ahead" = true)
    (k_ahead : PySem.W.keepIn K (.ref f_ahead) = true)
    (a_byends : PySem.W.nsIn K mainGlobals "by_ends" = some (some (.ref f_byends)))
    (l_byends : K.lookup f_byends = some ⟨oc_byends, od_byends, .func (PySem.W.fnOf "by_ends" "by_ends" (C8.fnArgs sByEnds) (C8.fnBody sByEnds) (C8.fnScope sByEnds) .none kV_byends dc_byends pm_byends an_byends cd_byends ct_byends), sl_byends⟩)
    (c_byends : PySem.W.codeIn K cd_byends "by_ends" = true)
    (k_byends : PySem.W.keepIn K (.ref f_byends) = true)
    (a_rowt : PySem.W.nsIn K mainGlobals "row_text" = some (some (.ref f_rowt)))
    (l_rowt : K.lookup f_rowt = some ⟨oc_rowt, od_rowt, .func (PySem.W.fnOf "row_text" "row_text" (C8.fnArgs sRowText) (C8.fnBody sRowText) (C8.fnScope sRowText) .none kV_rowt dc_rowt pm_rowt an_rowt cd_rowt ct_rowt), sl_rowt⟩)
    (c_rowt : PySem.W.codeIn K cd_rowt "row_text" = true)
    (k_rowt : PySem.W.keepIn K (.ref f_rowt) = true)
    (a_colt : PySem.W.nsIn K mainGlobals "column_text" = some (some (.ref f_colt)))
    (l_colt : K.lookup f_colt = some ⟨oc_colt, od_colt, .func (PySem.W.fnOf "column_text" "column_text" (C8.fnArgs sColText) (C8.fnBody sColText) (C8.fnScope sColText) .none kV_colt dc_colt pm_colt an_colt cd_colt ct_colt), sl_colt⟩)
    (c_colt : PySem.W.codeIn K cd_colt "column_text" = true)
    (k_colt : PySem.W.keepIn K (.ref f_colt) = true)
    (a_counto : PySem.W.nsIn K mainGlobals "count_of" = some (some (.ref f_counto)))
    (l_counto : K.lookup f_counto = some ⟨oc_counto, od_counto, .func (PySem.W.fnOf "count_of" "count_of" (C8.fnArgs sCountOf) (C8.fnBody sCountOf) (C8.fnScope sCountOf) .none kV_counto dc_counto pm_counto an_counto cd_counto ct_counto), sl_counto⟩)
    (c_counto : PySem.W.codeIn K cd_counto "count_of" = true)
    (k_counto : PySem.W.keepIn K (.ref f_counto) = true)
    (a_parted : PySem.W.nsIn K mainGlobals "parted" = some (some (.ref f_parted)))
    (l_parted : K.lookup f_parted = some ⟨oc_parted, od_parted, .func (PySem.W.fnOf "parted" "parted" (C8.fnArgs sParted) (C8.fnBody sParted) (C8.fnScope sParted) .none kV_parted dc_parted pm_parted an_parted cd_parted ct_parted), sl_parted⟩)
    (c_parted : PySem.W.codeIn K cd_parted "parted" = true)
    (k_parted : PySem.W.keepIn K (.ref f_parted) = true)
    (a_blocko : PySem.W.nsIn K mainGlobals "block_of" = some (some (.ref f_blocko)))
    (l_blocko : K.lookup f_blocko = some ⟨oc_blocko, od_blocko, .func (PySem.W.fnOf "block_of" "block_of" (C8.fnArgs sBlockOf) (C8.fnBody sBlockOf) (C8.fnScope sBlockOf) .none kV_blocko dc_blocko pm_blocko an_blocko cd_blocko ct_blocko), sl_blocko⟩)
    (c_blocko : PySem.W.codeIn K cd_blocko "block_of" = true)
    (k_blocko : PySem.W.keepIn K (.ref f_blocko) = true)
    (a_well : PySem.W.nsIn K mainGlobals "_law_well" = some (some (.ref f_well)))
    (l_well : K.lookup f_well = some ⟨oc_well, od_well, .func (PySem.W.fnOf "_law_well" "_law_well" (C8.fnArgs sWell) (C8.fnBody sWell) (C8.fnScope sWell) .none kV_well dc_well pm_well an_well cd_well ct_well), sl_well⟩)
    (c_well : PySem.W.codeIn K cd_well "_law_well" = true)
    (k_well : PySem.W.keepIn K (.ref f_well) = true)
    (a_draw : PySem.W.nsIn K mainGlobals "_law_draw" = some (some (.ref f_draw)))
    (l_draw : K.lookup f_draw = some ⟨oc_draw, od_draw, .func (PySem.W.fnOf "_law_draw" "_law_draw" (C8.fnArgs sDraw) (C8.fnBody sDraw) (C8.fnScope sDraw) .none kV_draw dc_draw pm_draw an_draw cd_draw ct_draw), sl_draw⟩)
    (c_draw : PySem.W.codeIn K cd_draw "_law_draw" = true)
    (k_draw : PySem.W.keepIn K (.ref f_draw) = true)
    (a_ends : PySem.W.nsIn K mainGlobals "_law_ends" = some (some (.ref f_ends)))
    (l_ends : K.lookup f_ends = some ⟨oc_ends, od_ends, .func (PySem.W.fnOf "_law_ends" "_law_ends" (C8.fnArgs sEnds) (C8.fnBody sEnds) (C8.fnScope sEnds) .none kV_ends dc_ends pm_ends an_ends cd_ends ct_ends), sl_ends⟩)
    (c_ends : PySem.W.codeIn K cd_ends "_law_ends" = true)
    (k_ends : PySem.W.keepIn K (.ref f_ends) = true)
    (a_near : PySem.W.nsIn K mainGlobals "_law_near" = some (some (.ref f_near)))
    (l_near : K.lookup f_near = some ⟨oc_near, od_near, .func (PySem.W.fnOf "_law_near" "_law_near" (C8.fnArgs sNear) (C8.fnBody sNear) (C8.fnScope sNear) .none kV_near dc_near pm_near an_near cd_near ct_near), sl_near⟩)
    (c_near : PySem.W.codeIn K cd_near "_law_near" = true)
    (k_near : PySem.W.keepIn K (.ref f_near) = true)
    (a_window : PySem.W.nsIn K mainGlobals "_law_window" = some (some (.ref f_window)))
    (l_window : K.lookup f_window = some ⟨oc_window, od_window, .func (PySem.W.fnOf "_law_window" "_law_window" (C8.fnArgs sWindow) (C8.fnBody sWindow) (C8.fnScope sWindow) .none kV_window dc_window pm_window an_window cd_window ct_window), sl_window⟩)
    (c_window : PySem.W.codeIn K cd_window "_law_window" = true)
    (k_window : PySem.W.keepIn K (.ref f_window) = true)
    (a_counted : PySem.W.nsIn K mainGlobals "_law_counted" = some (some (.ref f_counted)))
    (l_counted : K.lookup f_counted = some ⟨oc_counted, od_counted, .func (PySem.W.fnOf "_law_counted" "_law_counted" (C8.fnArgs sCounted) (C8.fnBody sCounted) (C8.fnScope sCounted) .none kV_counted dc_counted pm_counted an_counted cd_counted ct_counted), sl_counted⟩)
    (c_counted : PySem.W.codeIn K cd_counted "_law_counted" = true)
    (k_counted : PySem.W.keepIn K (.ref f_counted) = true)
    (a_between : PySem.W.nsIn K mainGlobals "_law_between" = some (some (.ref f_between)))
    (l_between : K.lookup f_between = some ⟨oc_between, od_between, .func (PySem.W.fnOf "_law_between" "_law_between" (C8.fnArgs sBetween) (C8.fnBody sBetween) (C8.fnScope sBetween) .none kV_between dc_between pm_between an_between cd_between ct_between), sl_between⟩)
    (c_between : PySem.W.codeIn K cd_between "_law_between" = true)
    (k_between : PySem.W.keepIn K (.ref f_between) = true)
    (a_law : PySem.W.nsIn K mainGlobals "law" = some (some (.ref f_law)))
    (l_law : K.lookup f_law = some ⟨oc_law, od_law, .func (PySem.W.fnOf "law" "law" (C8.fnArgs sLaw) (C8.fnBody sLaw) (C8.fnScope sLaw) .none kV_law dc_law pm_law an_law cd_law ct_law), sl_law⟩)
    (c_law : PySem.W.codeIn K cd_law "law" = true)
    (k_law : PySem.W.keepIn K (.ref f_law) = true)
    (a_ini : PySem.W.findIn K (.ref B) "__init__" = some (some (.ref f_ini)))
    (i_ini : PySem.W.isFn K (.ref f_ini) = true)
    (l_ini : K.lookup f_ini = some ⟨oc_ini, od_ini, .func (PySem.W.fnOf "__init__" "Block.__init__" (C8.fnArgs sInit) (C8.fnBody sInit) (C8.fnScope sInit) (.ref TD) kV_ini dc_ini pm_ini an_ini cd_ini ct_ini), sl_ini⟩)
    (c_ini : PySem.W.codeIn K cd_ini "Block.__init__" = true)
    (k_ini : PySem.W.keepIn K (.ref f_ini) = true)
    (a_equ : PySem.W.findIn K (.ref B) "__eq__" = some (some (.ref f_equ)))
    (i_equ : PySem.W.isFn K (.ref f_equ) = true)
    (l_equ : K.lookup f_equ = some ⟨oc_equ, od_equ, .func (PySem.W.fnOf "__eq__" "Block.__eq__" (C8.fnArgs sEq) (C8.fnBody sEq) (C8.fnScope sEq) .none kV_equ dc_equ pm_equ an_equ cd_equ ct_equ), sl_equ⟩)
    (c_equ : PySem.W.codeIn K cd_equ "Block.__eq__" = true)
    (k_equ : PySem.W.keepIn K (.ref f_equ) = true)
    (a_stri : PySem.W.findIn K (.ref B) "__str__" = some (some (.ref f_stri)))
    (i_stri : PySem.W.isFn K (.ref f_stri) = true)
    (l_stri : K.lookup f_stri = some ⟨oc_stri, od_stri, .func (PySem.W.fnOf "__str__" "Block.__str__" (C8.fnArgs sStr) (C8.fnBody sStr) (C8.fnScope sStr) .none kV_stri dc_stri pm_stri an_stri cd_stri ct_stri), sl_stri⟩)
    (c_stri : PySem.W.codeIn K cd_stri "Block.__str__" = true)
    (k_stri : PySem.W.keepIn K (.ref f_stri) = true)
    (a_has : PySem.W.findIn K (.ref B) "has" = some (some (.ref f_has)))
    (i_has : PySem.W.isFn K (.ref f_has) = true)
    (l_has : K.lookup f_has = some ⟨oc_has, od_has, .func (PySem.W.fnOf "has" "Block.has" (C8.fnArgs sHas) (C8.fnBody sHas) (C8.fnScope sHas) .none kV_has dc_has pm_has an_has cd_has ct_has), sl_has⟩)
    (c_has : PySem.W.codeIn K cd_has "Block.has" = true)
    (k_has : PySem.W.keepIn K (.ref f_has) = true)
    (a_size : PySem.W.findIn K (.ref B) "size" = some (some (.ref f_size)))
    (i_size : PySem.W.isFn K (.ref f_size) = true)
    (l_size : K.lookup f_size = some ⟨oc_size, od_size, .func (PySem.W.fnOf "size" "Block.size" (C8.fnArgs sSize) (C8.fnBody sSize) (C8.fnScope sSize) .none kV_size dc_size pm_size an_size cd_size ct_size), sl_size⟩)
    (c_size : PySem.W.codeIn K cd_size "Block.size" = true)
    (k_size : PySem.W.keepIn K (.ref f_size) = true)
    (lT : K.lookup TD = some ⟨cT, dT, .seq [.int 1 t1, .int 1 t2, .none, .none].toArray nT, slT⟩)
    (z_isinstance : PySem.W.nsIn K mainGlobals "isinstance" = some none)
    (z_int : PySem.W.nsIn K mainGlobals "int" = some none)
    (z_bool : PySem.W.nsIn K mainGlobals "bool" = some none)
    (z_tuple : PySem.W.nsIn K mainGlobals "tuple" = some none)
    (z_list : PySem.W.nsIn K mainGlobals "list" = some none)
    (z_str : PySem.W.nsIn K mainGlobals "str" = some none)
    (z_len : PySem.W.nsIn K mainGlobals "len" = some none)
    (z_all : PySem.W.nsIn K mainGlobals "all" = some none)
    (z_divmod : PySem.W.nsIn K mainGlobals "divmod" = some none)
    (z_range : PySem.W.nsIn K mainGlobals "range" = some none)
    (gL : PySem.W.nsIn K mainGlobals "LETTERS" = some (some (.str xL tL)))
    (gF : PySem.W.nsIn K mainGlobals "FIGURES" = some (some (.str xF tF)))
    (gN : PySem.W.nsIn K mainGlobals "MOST_LETTERS" = some (some (.int 9 tN)))
    (gM : PySem.W.nsIn K mainGlobals "MOST_FIGURES" = some (some (.int 12 tM)))
    (eL : xL = LET)
    (eF : xF = FIG)
    (pg : PySem.W.plainGet K B Str.empty = true)
    (hd : PySem.W.hasDictIn K B = true)
    (po : PySem.W.plainOver K B = true)
    (sa : PySem.W.findIn K (.ref B) "__setattr__" = some (some (.builtin "object.__setattr__")))
    (mk : PySem.W.makesIn K B = true)
    (kc : PySem.W.keepIn K (.ref B) = true)
    (n_top : PySem.W.findIn K (.ref B) "top" = some none)
    (n_left : PySem.W.findIn K (.ref B) "left" = some none)
    (n_bottom : PySem.W.findIn K (.ref B) "bottom" = some none)
    (n_right : PySem.W.findIn K (.ref B) "right" = some none)
    (qc : PySem.W.findIn K (.ref B) "__class__" = some (some (.builtin "object.__class__")))
    (qn : PySem.W.specialIn K (.builtin "object.__class__") "__get__" = some (some (.builtin "getset_descriptor.__get__")))
    (qt : PySem.W.takesIn K (.builtin "object.__class__") = some true)
    (qm : PySem.W.mroIn K B (.type "object") = some true)
    : ∃ fd : FuncData, (∀ (s : Shared) (v : Value), BindsTo s fd ⟨[v], []⟩ [("_law_script", v)]) ∧ ∀ base : Heap, K.In base → base.Ns mainGlobals mg → FnOk l.prog w K mg base C8.CX0 9 fa fd ["_law_script"] (spLaw K) := by
  have e := (PySem.W.mg_of X G a_law).symm.trans hfa
  have e2 : f_law = fa := Value.ref.inj (Option.some.inj e)
  subst e2
  subst eL
  subst eF
  have cl : Cls K B := ⟨pg, hd, po, sa⟩
  have T : Txt K mg B := ⟨cl, n_top, n_left, n_bottom, n_right, PySem.W.mg_none_of X G z_isinstance, PySem.W.mg_none_of X G z_int, PySem.W.mg_none_of X G z_bool, PySem.W.mg_none_of X G z_tuple, PySem.W.mg_none_of X G z_list, PySem.W.mg_none_of X G z_str, PySem.W.mg_none_of X G z_len, PySem.W.mg_none_of X G z_all, PySem.W.mg_none_of X G z_divmod, PySem.W.mg_none_of X G z_range, ⟨_, PySem.W.mg_of X G gL, tL, rfl⟩, ⟨_, PySem.W.mg_of X G gF, tF, rfl⟩, ⟨_, PySem.W.mg_of X G gN, tN, rfl⟩, ⟨_, PySem.W.mg_of X G gM, tM, rfl⟩, PySem.W.mg_of X G aB, ⟨cl, qc, qn, qt, qm, kit_self⟩⟩
  have D_whole : C8.Def K mg "is_whole" sWhole f_whole (PySem.W.fnOf "is_whole" "is_whole" (C8.fnArgs sWhole) (C8.fnBody sWhole) (C8.fnScope sWhole) .none kV_whole dc_whole pm_whole an_whole cd_whole ct_whole) := ⟨⟨⟨_, _, _, _, _, _, _, _, _, _, rfl, l_whole, c_whole⟩⟩, PySem.W.mg_of X G a_whole, k_whole⟩
  have D_count : C8.Def K mg "is_count" sCount f_count (PySem.W.fnOf "is_count" "is_count" (C8.fnArgs sCount) (C8.fnBody sCount) (C8.fnScope sCount) .none kV_count dc_count pm_count an_count cd_count ct_count) := ⟨⟨⟨_, _, _, _, _, _, _, _, _, _, rfl, l_count, c_count⟩⟩, PySem.W.mg_of X G a_count, k_count⟩
  have D_cell : C8.Def K mg "is_cell" sCell f_cell (PySem.W.fnOf "is_cell" "is_cell" (C8.fnArgs sCell) (C8.fnBody sCell) (C8.fnScope sCell) .none kV_cell dc_cell pm_cell an_cell cd_cell ct_cell) := ⟨⟨⟨_, _, _, _, _, _, _, _, _, _, rfl, l_cell, c_cell⟩⟩, PySem.W.mg_of X G a_cell, k_cell⟩
  have D_checked : C8.Def K mg "checked_cell" sChecked f_checked (PySem.W.fnOf "checked_cell" "checked_cell" (C8.fnArgs sChecked) (C8.fnBody sChecked) (C8.fnScope sChecked) .none kV_checked dc_checked pm_checked an_checked cd_checked ct_checked) := ⟨⟨⟨_, _, _, _, _, _, _, _, _, _, rfl, l_checked, c_checked⟩⟩, PySem.W.mg_of X G a_checked, k_checked⟩
  have D_lett : C8.Def K mg "letters_of" sLettersOf f_lett (PySem.W.fnOf "letters_of" "letters_of" (C8.fnArgs sLettersOf) (C8.fnBody sLettersOf) (C8.fnScope sLettersOf) .none kV_lett dc_lett pm_lett an_lett cd_lett ct_lett) := ⟨⟨⟨_, _, _, _, _, _, _, _, _, _, rfl, l_lett, c_lett⟩⟩, PySem.W.mg_of X G a_lett, k_lett⟩
  have D_numb : C8.Def K mg "number_of" sNumberOf f_numb (PySem.W.fnOf "number_of" "number_of" (C8.fnArgs sNumberOf) (C8.fnBody sNumberOf) (C8.fnScope sNumberOf) .none kV_numb dc_numb pm_numb an_numb cd_numb ct_numb) := ⟨⟨⟨_, _, _, _, _, _, _, _, _, _, rfl, l_numb, c_numb⟩⟩, PySem.W.mg_of X G a_numb, k_numb⟩
  have D_isend : C8.Def K mg "is_end" sEnd f_isend (PySem.W.fnOf "is_end" "is_end" (C8.fnArgs sEnd) (C8.fnBody sEnd) (C8.fnScope sEnd) .none kV_isend dc_isend pm_isend an_isend cd_isend ct_isend) := ⟨⟨⟨_, _, _, _, _, _, _, _, _, _, rfl, l_isend, c_isend⟩⟩, PySem.W.mg_of X G a_isend, k_isend⟩
  have D_isrow : C8.Def K mg "is_rows" sRows f_isrow (PySem.W.fnOf "is_rows" "is_rows" (C8.fnArgs sRows) (C8.fnBody sRows) (C8.fnScope sRows) .none kV_isrow dc_isrow pm_isrow an_isrow cd_isrow ct_isrow) := ⟨⟨⟨_, _, _, _, _, _, _, _, _, _, rfl, l_isrow, c_isrow⟩⟩, PySem.W.mg_of X G a_isrow, k_isrow⟩
  have D_iscol : C8.Def K mg "is_columns" sColumns f_iscol (PySem.W.fnOf "is_columns" "is_columns" (C8.fnArgs sColumns) (C8.fnBody sColumns) (C8.fnScope sColumns) .none kV_iscol dc_iscol pm_iscol an_iscol cd_iscol ct_iscol) := ⟨⟨⟨_, _, _, _, _, _, _, _, _, _, rfl, l_iscol, c_iscol⟩⟩, PySem.W.mg_of X G a_iscol, k_iscol⟩
  have D_ahead : C8.Def K mg "letters_ahead" sAhead f_ahead (PySem.W.fnOf "letters_ahead" "letters_ahead" (C8.fnArgs sAhead) (C8.fnBody sAhead) (C8.fnScope sAhead) .none kV_ahead dc_ahead pm_ahead an_ahead cd_ahead ct_ahead) := ⟨⟨⟨_, _, _, _, _, _, _, _, _, _, rfl, l_ahead, c_ahead⟩⟩, PySem.W.mg_of X G a_ahead, k_ahead⟩
  have D_byends : C8.Def K mg "by_ends" sByEnds f_byends (PySem.W.fnOf "by_ends" "by_ends" (C8.fnArgs sByEnds) (C8.fnBody sByEnds) (C8.fnScope sByEnds) .none kV_byends dc_byends pm_byends an_byends cd_byends ct_byends) := ⟨⟨⟨_, _, _, _, _, _, _, _, _, _, rfl, l_byends, c_byends⟩⟩, PySem.W.mg_of X G a_byends, k_byends⟩
  have D_rowt : C8.Def K mg "row_text" sRowText f_rowt (PySem.W.fnOf "row_text" "row_text" (C8.fnArgs sRowText) (C8.fnBody sRowText) (C8.fnScope sRowText) .none kV_rowt dc_rowt pm_rowt an_rowt cd_rowt ct_rowt) := ⟨⟨⟨_, _, _, _, _, _, _, _, _, _, rfl, l_rowt, c_rowt⟩⟩, PySem.W.mg_of X G a_rowt, k_rowt⟩
  have D_colt : C8.Def K mg "column_text" sColText f_colt (PySem.W.fnOf "column_text" "column_text" (C8.fnArgs sColText) (C8.fnBody sColText) (C8.fnScope sColText) .none kV_colt dc_colt pm_colt an_colt cd_colt ct_colt) := ⟨⟨⟨_, _, _, _, _, _, _, _, _, _, rfl, l_colt, c_colt⟩⟩, PySem.W.mg_of X G a_colt, k_colt⟩
  have D_counto : C8.Def K mg "count_of" sCountOf f_counto (PySem.W.fnOf "count_of" "count_of" (C8.fnArgs sCountOf) (C8.fnBody sCountOf) (C8.fnScope sCountOf) .none kV_counto dc_counto pm_counto an_counto cd_counto ct_counto) := ⟨⟨⟨_, _, _, _, _, _, _, _, _, _, rfl, l_counto, c_counto⟩⟩, PySem.W.mg_of X G a_counto, k_counto⟩
  have D_parted : C8.Def K mg "parted" sParted f_parted (PySem.W.fnOf "parted" "parted" (C8.fnArgs sParted) (C8.fnBody sParted) (C8.fnScope sParted) .none kV_parted dc_parted pm_parted an_parted cd_parted ct_parted) := ⟨⟨⟨_, _, _, _, _, _, _, _, _, _, rfl, l_parted, c_parted⟩⟩, PySem.W.mg_of X G a_parted, k_parted⟩
  have D_blocko : C8.Def K mg "block_of" sBlockOf f_blocko (PySem.W.fnOf "block_of" "block_of" (C8.fnArgs sBlockOf) (C8.fnBody sBlockOf) (C8.fnScope sBlockOf) .none kV_blocko dc_blocko pm_blocko an_blocko cd_blocko ct_blocko) := ⟨⟨⟨_, _, _, _, _, _, _, _, _, _, rfl, l_blocko, c_blocko⟩⟩, PySem.W.mg_of X G a_blocko, k_blocko⟩
  have D_well : C8.Def K mg "_law_well" sWell f_well (PySem.W.fnOf "_law_well" "_law_well" (C8.fnArgs sWell) (C8.fnBody sWell) (C8.fnScope sWell) .none kV_well dc_well pm_well an_well cd_well ct_well) := ⟨⟨⟨_, _, _, _, _, _, _, _, _, _, rfl, l_well, c_well⟩⟩, PySem.W.mg_of X G a_well, k_well⟩
  have D_draw : C8.Def K mg "_law_draw" sDraw f_draw (PySem.W.fnOf "_law_draw" "_law_draw" (C8.fnArgs sDraw) (C8.fnBody sDraw) (C8.fnScope sDraw) .none kV_draw dc_draw pm_draw an_draw cd_draw ct_draw) := ⟨⟨⟨_, _, _, _, _, _, _, _, _, _, rfl, l_draw, c_draw⟩⟩, PySem.W.mg_of X G a_draw, k_draw⟩
  have D_ends : C8.Def K mg "_law_ends" sEnds f_ends (PySem.W.fnOf "_law_ends" "_law_ends" (C8.fnArgs sEnds) (C8.fnBody sEnds) (C8.fnScope sEnds) .none kV_ends dc_ends pm_ends an_ends cd_ends ct_ends) := ⟨⟨⟨_, _, _, _, _, _, _, _, _, _, rfl, l_ends, c_ends⟩⟩, PySem.W.mg_of X G a_ends, k_ends⟩
  have D_near : C8.Def K mg "_law_near" sNear f_near (PySem.W.fnOf "_law_near" "_law_near" (C8.fnArgs sNear) (C8.fnBody sNear) (C8.fnScope sNear) .none kV_near dc_near pm_near an_near cd_near ct_near) := ⟨⟨⟨_, _, _, _, _, _, _, _, _, _, rfl, l_near, c_near⟩⟩, PySem.W.mg_of X G a_near, k_near⟩
  have D_window : C8.Def K mg "_law_window" sWindow f_window (PySem.W.fnOf "_law_window" "_law_window" (C8.fnArgs sWindow) (C8.fnBody sWindow) (C8.fnScope sWindow) .none kV_window dc_window pm_window an_window cd_window ct_window) := ⟨⟨⟨_, _, _, _, _, _, _, _, _, _, rfl, l_window, c_window⟩⟩, PySem.W.mg_of X G a_window, k_window⟩
  have D_counted : C8.Def K mg "_law_counted" sCounted f_counted (PySem.W.fnOf "_law_counted" "_law_counted" (C8.fnArgs sCounted) (C8.fnBody sCounted) (C8.fnScope sCounted) .none kV_counted dc_counted pm_counted an_counted cd_counted ct_counted) := ⟨⟨⟨_, _, _, _, _, _, _, _, _, _, rfl, l_counted, c_counted⟩⟩, PySem.W.mg_of X G a_counted, k_counted⟩
  have D_between : C8.Def K mg "_law_between" sBetween f_between (PySem.W.fnOf "_law_between" "_law_between" (C8.fnArgs sBetween) (C8.fnBody sBetween) (C8.fnScope sBetween) .none kV_between dc_between pm_between an_between cd_between ct_between) := ⟨⟨⟨_, _, _, _, _, _, _, _, _, _, rfl, l_between, c_between⟩⟩, PySem.W.mg_of X G a_between, k_between⟩
  have D_law : C8.Def K mg "law" sLaw f_law (PySem.W.fnOf "law" "law" (C8.fnArgs sLaw) (C8.fnBody sLaw) (C8.fnScope sLaw) .none kV_law dc_law pm_law an_law cd_law ct_law) := ⟨⟨⟨_, _, _, _, _, _, _, _, _, _, rfl, l_law, c_law⟩⟩, PySem.W.mg_of X G a_law, k_law⟩
  have D_ini : C8.Fun K "__init__" "Block.__init__" sInit f_ini (PySem.W.fnOf "__init__" "Block.__init__" (C8.fnArgs sInit) (C8.fnBody sInit) (C8.fnScope sInit) (.ref TD) kV_ini dc_ini pm_ini an_ini cd_ini ct_ini) := ⟨⟨_, _, _, _, _, _, _, _, _, _, rfl, l_ini, c_ini⟩⟩
  have D_equ : C8.Fun K "__eq__" "Block.__eq__" sEq f_equ (PySem.W.fnOf "__eq__" "Block.__eq__" (C8.fnArgs sEq) (C8.fnBody sEq) (C8.fnScope sEq) .none kV_equ dc_equ pm_equ an_equ cd_equ ct_equ) := ⟨⟨_, _, _, _, _, _, _, _, _, _, rfl, l_equ, c_equ⟩⟩
  have D_stri : C8.Fun K "__str__" "Block.__str__" sStr f_stri (PySem.W.fnOf "__str__" "Block.__str__" (C8.fnArgs sStr) (C8.fnBody sStr) (C8.fnScope sStr) .none kV_stri dc_stri pm_stri an_stri cd_stri ct_stri) := ⟨⟨_, _, _, _, _, _, _, _, _, _, rfl, l_stri, c_stri⟩⟩
  have D_has : C8.Fun K "has" "Block.has" sHas f_has (PySem.W.fnOf "has" "Block.has" (C8.fnArgs sHas) (C8.fnBody sHas) (C8.fnScope sHas) .none kV_has dc_has pm_has an_has cd_has ct_has) := ⟨⟨_, _, _, _, _, _, _, _, _, _, rfl, l_has, c_has⟩⟩
  have D_size : C8.Fun K "size" "Block.size" sSize f_size (PySem.W.fnOf "size" "Block.size" (C8.fnArgs sSize) (C8.fnBody sSize) (C8.fnScope sSize) .none kV_size dc_size pm_size an_size cd_size ct_size) := ⟨⟨_, _, _, _, _, _, _, _, _, _, rfl, l_size, c_size⟩⟩
  have FD : FunD K "__init__" "Block.__init__" (C8.fnArgs sInit) (C8.fnBody sInit) (C8.fnScope sInit) [.int 1, .int 1, .non, .non] [] f_ini (PySem.W.fnOf "__init__" "Block.__init__" (C8.fnArgs sInit) (C8.fnBody sInit) (C8.fnScope sInit) (.ref TD) kV_ini dc_ini pm_ini an_ini cd_ini ct_ini) :=
    ⟨⟨_, _, _, _, _, _, _, _, _, _, rfl, l_ini, c_ini, .inr ⟨(fun z => nomatch z), TD, _, _, _, rfl, lT, rfl, .cons ⟨t1, rfl⟩ (.cons ⟨t2, rfl⟩ (.cons rfl (.cons rfl .nil)))⟩, .inl rfl⟩, k_ini⟩
  obtain ⟨ds, rd, bI⟩ := FD.binds1 (ps := ["self", "top", "left", "bottom", "right"]) 5 4 (fun z => nomatch z) rfl fun _ _ _ _ _ _ _ us its hu hi => match us, its, hu, hi with | [_, _, _, _, _], [_, _, _, _], _, _ => ⟨_, rfl, rfl⟩
  have rd2 : Vals [] ds := rd
  cases rd2
  obtain ⟨its, kI⟩ := FD.kbindsD (ps := ["self", "top", "left", "bottom", "right"]) 3 ["bottom", "right"] (fun us _ ws => us ++ ws) (fun z => nomatch z) (fun r1 _ r3 => Vals.append r1 r3) fun _ _ _ _ _ _ _ us its ws hu hi hw => match us, its, ws, hu, hi, hw with | [_, _, _], [_, _, _, _], [_, _], _, _, _ => ⟨_, rfl, rfl⟩
  have bS : Binds K _ ["self"] [] := D_stri.binds rfl (ps := ["self"]) fun _ _ _ _ _ _ us hl => match us, hl with | [_], _ => rfl
  have bE : Binds K _ ["self", "other"] [] := D_equ.binds rfl (ps := ["self", "other"]) fun _ _ _ _ _ _ us hl => match us, hl with | [_, _], _ => rfl
  refine ⟨PySem.W.fnOf "law" "law" (C8.fnArgs sLaw) (C8.fnBody sLaw) (C8.fnScope sLaw) .none kV_law dc_law pm_law an_law cd_law ct_law, fun s v => .of_eq rfl, fun base _ _ => ?_⟩
  have c1 := ok_whole (P := l.prog) (w := w) (base := base) D_whole rfl T
  have c2 := ok_count D_count rfl T c1
  have c3 := ok_cell D_cell rfl T c2
  have c4 := ok_checked D_checked rfl T c3
  have cLe := ok_letters D_lett rfl T c2
  have cNu := ok_number (P := l.prog) (w := w) (base := base) D_numb rfl T
  have cEn := ok_end D_isend rfl c2
  have cRo := ok_rows (P := l.prog) (w := w) (base := base) D_isrow rfl T
  have cCo := ok_columns (P := l.prog) (w := w) (base := base) D_iscol rfl T
  have cSi := ok_size (P := l.prog) (w := w) (base := base) D_size ⟨a_size, i_size, k_size⟩ rfl T
  have cAh := ok_ahead (P := l.prog) (w := w) (base := base) D_ahead rfl
  have cRT := ok_rowText (P := l.prog) (w := w) (base := base) D_rowt rfl T
  have cCT := ok_colText D_colt rfl cLe
  have cBy := ok_byEnds D_byends rfl T cRo cCo cAh cSi
  have FI := ok_init D_ini T c2 cEn
  have FE := ok_eq (P := l.prog) (w := w) (base := base) D_equ T
  have FS := ok_str D_stri T (PySem.W.mg_of X G a_ahead) cRT cCT cBy
  have cHa := ok_has D_has ⟨a_has, i_has, k_has⟩ rfl T c4
  have cCn := ok_countOf (P := l.prog) (w := w) (base := base) D_counto rfl T
  have cPa := ok_parted D_parted rfl T cCn cNu
  have MI : Mk K B f_ini := ⟨mk, a_ini, i_ini, kc⟩
  have mB : C8.Mak l.prog w K mg base 4 "Block" B (spInit B) [] := ⟨f_ini, _, _, [], MI, FI, PySem.W.mg_of X G aB, bI, .nil⟩
  have cBO := ok_blockOf D_blocko rfl T cPa mB FS bS a_stri i_stri
  have cWe := ok_well (P := l.prog) (w := w) (base := base) D_well rfl T
  have cDr := ok_draw (P := l.prog) (w := w) (base := base) D_draw rfl
  have cEs := ok_ends D_ends rfl cDr
  have cNe := ok_near D_near rfl T cDr
  have cWi := ok_window D_window rfl T cHa
  have cCd := ok_counted D_counted rfl T cSi
  have cBt := ok_between (P := l.prog) (w := w) (base := base) D_between rfl T
  exact ok_law D_law.fn T cWe cEs cNe cDr mB MI FI kI cWi cCd cBt cBO FS bS a_stri i_stri FE bE a_equ i_equ
theorem walk {l : PySem.W.OpenLaw} {q : Program} {loose : List Str} {XP : (Str → Option Value) → Heap → Prop} {YP : World → Heap → Prop} {d : DefRec} {K : Params → PySem.W.Frag} (hn : l.most = some 63) (hdf : d.params.defaults = [])
    (hY : ∀ (w : World) (h : Heap), YP w h → (K w.params).In h)
    (F : ∀ (w : World) (mg : Str → Option Value) (fa : Addr) (h : Heap), (K w.params).In h → h.Ns mainGlobals mg → mg d.name = some (.ref fa) →
      ∃ fd : FuncData, (∀ (s : Shared) (u : Value), BindsTo s fd ⟨[u], []⟩ [("_law_script", u)]) ∧ ∀ base : Heap, (K w.params).In base → base.Ns mainGlobals mg → FnOk l.prog w (K w.params) mg base C8.CX0 9 fa fd ["_law_script"] (spLaw (K w.params))) :
    PySem.W.WalkO q loose XP YP l.row.toRowW d [] (fun f vs => PySem.call f vs) :=
  L2.walk_of (n := 63) (k := 9) (x := "_law_script") (CX := fun _ => C8.CX0) (sp := fun w => spLaw (K w.params)) hn (by decide) hdf ⟨rfl, by decide, by decide⟩ hY F (fun _ _ a ns hl _ hS => ⟨a, ns, rfl, hS, hl, fun _ => rfl⟩) fun _ _ _ _ _ z => z
end K7
open PySem PySem.W PyProof.Rows
set_option maxRecDepth 100000 in
set_option maxHeartbeats 0 in
theorem PySem.Challenge.cw_cellblocks_k07_whole_blocks_by_their_cel_holds : PySem.Challenge.rw_cellblocks_k07_whole_blocks_by_their_cel.Holds := by
  w_on; o_law; k_head; (case hw => w_witness2)
  k_fill
  refine K7.walk (l := PySem.Challenge.rw_cellblocks_k07_whole_blocks_by_their_cel) rfl rfl (fun w h Y => PySem.W.kIn_of Y) ?F
  case F =>
    intro w mg fa h KX G hmg
    refine' K7.facts KX G hmg ?aB ?a_whole ?l_whole ?c_whole ?k_whole ?a_count ?l_count ?c_count ?k_count ?a_cell ?l_cell ?c_cell ?k_cell ?a_checked ?l_checked ?c_checked ?k_checked ?a_lett ?l_lett ?c_lett ?k_lett ?a_numb ?l_numb ?c_numb ?k_numb ?a_isend ?l_isend ?c_isend ?k_isend ?a_isrow ?l_isrow ?c_isrow ?k_isrow ?a_iscol ?l_iscol ?c_iscol ?k_iscol ?a_ahead ?l_ahead ?c_ahead ?k_ahead ?a_byends ?l_byends ?c_byends ?k_byends ?a_rowt ?l_rowt ?c_rowt ?k_rowt ?a_colt ?l_colt ?c_colt ?k_colt ?a_counto ?l_counto ?c_counto ?k_counto ?a_parted ?l_parted ?c_parted ?k_parted ?a_blocko ?l_blocko ?c_blocko ?k_blocko ?a_well ?l_well ?c_well ?k_well ?a_draw ?l_draw ?c_draw ?k_draw ?a_ends ?l_ends ?c_ends ?k_ends ?a_near ?l_near ?c_near ?k_near ?a_window ?l_window ?c_window ?k_window ?a_counted ?l_counted ?c_counted ?k_counted ?a_between ?l_between ?c_between ?k_between ?a_law ?l_law ?c_law ?k_law ?a_ini ?i_ini ?l_ini ?c_ini ?k_ini ?a_equ ?i_equ ?l_equ ?c_equ ?k_equ ?a_stri ?i_stri ?l_stri ?c_stri ?k_stri ?a_has ?i_has ?l_has ?c_has ?k_has ?a_size ?i_size ?l_size ?c_size ?k_size ?lT ?z_isinstance ?z_int ?z_bool ?z_tuple ?z_list ?z_str ?z_len ?z_all ?z_divmod ?z_range ?gL ?gF ?gN ?gM ?eL ?eF ?pg ?hd ?po ?sa ?mk ?kc ?n_top ?n_left ?n_bottom ?n_right ?qc ?qn ?qt ?qm
    (case aB => k_is)
    (case a_whole => k_is)
    (case l_whole => k_is)
    (case c_whole => k_is)
    (case k_whole => k_is)
    (case a_count => k_is)
    (case l_count => k_is)
    (case c_count => k_is)
    (case k_count => k_is)
    (case a_cell => k_is)
    (case l_cell => k_is)
    (case c_cell => k_is)
    (case k_cell => k_is)
    (case a_checked => k_is)
    (case l_checked => k_is)
    (case c_checked => k_is)
    (case k_checked => k_is)
    (case a_lett => k_is)
    (case l_lett => k_is)
    (case c_lett => k_is)
    (case k_lett => k_is)
    (case a_numb => k_is)
    (case l_numb => k_is)
    (case c_numb => k_is)
    (case k_numb => k_is)
    (case a_isend => k_is)
    (case l_isend => k_is)
    (case c_isend => k_is)
    (case k_isend => k_is)
    (case a_isrow => k_is)
    (case l_isrow => k_is)
    (case c_isrow => k_is)
    (case k_isrow => k_is)
    (case a_iscol => k_is)
    (case l_iscol => k_is)
    (case c_iscol => k_is)
    (case k_iscol => k_is)
    (case a_ahead => k_is)
    (case l_ahead => k_is)
    (case c_ahead => k_is)
    (case k_ahead => k_is)
    (case a_byends => k_is)
    (case l_byends => k_is)
    (case c_byends => k_is)
    (case k_byends => k_is)
    (case a_rowt => k_is)
    (case l_rowt => k_is)
    (case c_rowt => k_is)
    (case k_rowt => k_is)
    (case a_colt => k_is)
    (case l_colt => k_is)
    (case c_colt => k_is)
    (case k_colt => k_is)
    (case a_counto => k_is)
    (case l_counto => k_is)
    (case c_counto => k_is)
    (case k_counto => k_is)
    (case a_parted => k_is)
    (case l_parted => k_is)
    (case c_parted => k_is)
    (case k_parted => k_is)
    (case a_blocko => k_is)
    (case l_blocko => k_is)
    (case c_blocko => k_is)
    (case k_blocko => k_is)
    (case a_well => k_is)
    (case l_well => k_is)
    (case c_well => k_is)
    (case k_well => k_is)
    (case a_draw => k_is)
    (case l_draw => k_is)
    (case c_draw => k_is)
    (case k_draw => k_is)
    (case a_ends => k_is)
    (case l_ends => k_is)
    (case c_ends => k_is)
    (case k_ends => k_is)
    (case a_near => k_is)
    (case l_near => k_is)
    (case c_near => k_is)
    (case k_near => k_is)
    (case a_window => k_is)
    (case l_window => k_is)
    (case c_window => k_is)
    (case k_window => k_is)
    (case a_counted => k_is)
    (case l_counted => k_is)
    (case c_counted => k_is)
    (case k_counted => k_is)
    (case a_between => k_is)
    (case l_between => k_is)
    (case c_between => k_is)
    (case k_between => k_is)
    (case a_law => k_is)
    (case l_law => k_is)
    (case c_law => k_is)
    (case k_law => k_is)
    (case a_ini => k_is)
    (case i_ini => k_is)
    (case l_ini => k_is)
    (case c_ini => k_is)
    (case k_ini => k_is)
    (case a_equ => k_is)
    (case i_equ => k_is)
    (case l_equ => k_is)
    (case c_equ => k_is)
    (case k_equ => k_is)
    (case a_stri => k_is)
    (case i_stri => k_is)
    (case l_stri => k_is)
    (case c_stri => k_is)
    (case k_stri => k_is)
    (case a_has => k_is)
    (case i_has => k_is)
    (case l_has => k_is)
    (case c_has => k_is)
    (case k_has => k_is)
    (case a_size => k_is)
    (case i_size => k_is)
    (case l_size => k_is)
    (case c_size => k_is)
    (case k_size => k_is)
    (case lT => k_is)
    (case z_isinstance => k_is)
    (case z_int => k_is)
    (case z_bool => k_is)
    (case z_tuple => k_is)
    (case z_list => k_is)
    (case z_str => k_is)
    (case z_len => k_is)
    (case z_all => k_is)
    (case z_divmod => k_is)
    (case z_range => k_is)
    (case gL => k_is)
    (case gF => k_is)
    (case gN => k_is)
    (case gM => k_is)
    (case eL => decide +kernel)
    (case eF => decide +kernel)
    (case pg => k_is)
    (case hd => k_is)
    (case po => k_is)
    (case sa => k_is)
    (case mk => k_is)
    (case kc => k_is)
    (case n_top => k_is)
    (case n_left => k_is)
    (case n_bottom => k_is)
    (case n_right => k_is)
    (case qc => k_is)
    (case qn => k_is)
    (case qt => k_is)
    (case qm => k_is)
