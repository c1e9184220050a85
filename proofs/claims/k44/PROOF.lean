import PyProof.Rows.All
import Wide.All
import OpenK.AllK
import Wide.FinOn
import HandS.ForMost
import PySem.Challenge.RW_crossloom_k44_spreads_and_ideal
import HandS.Style
import HandS.SortRule
import HandS.Conv
import HandS.Walk
import HandS.EndTab
import PyProof.SumAny
import PyProof.GenQ
import HandS.AnyAll
import HandS.WordsDict

set_option Elab.async false
set_option maxRecDepth 100000
namespace K44
open PySem L2
/-! ### the text by places -/
def top (i : Nat) : Stmt := PySem.Challenge.pw_crossloom_k44_spreads_and_ideal.main.body.getD i (.Pass ⟨0, 0, 0, 0⟩)
abbrev sInit : Stmt := inClass (top 5) 0
abbrev sPut : Stmt := inClass (top 5) 1
abbrev sJoined : Stmt := inClass (top 5) 2
abbrev sOutOf : Stmt := inClass (top 5) 3
abbrev sTurn : Stmt := inClass (top 5) 4
abbrev sLeft : Stmt := inClass (top 5) 5
abbrev sShort : Stmt := inClass (top 5) 6
abbrev sIdeal : Stmt := inClass (top 7) 0
abbrev sLeaving : Stmt := inClass (top 7) 1
abbrev sRun : Stmt := top 8
abbrev sFlat : Stmt := top 10
abbrev sDice : Stmt := top 11
abbrev sRoll : Stmt := top 12
abbrev sRounds : Stmt := top 13
abbrev sLaw : Stmt := top 14

/-! ### attributes -/
theorem putF_putF (f : Str) (u v : V) : ∀ fs : List (Str × V), putF f v (putF f u fs) = putF f v fs
  | [] => by show (if f = f then _ else _) = _; rw [if_pos rfl]; rfl
  | (g, x) :: r => by
    show putF f v (if g = f then _ else _) = (if g = f then _ else _)
    by_cases h : g = f
    · rw [if_pos h, if_pos h]; show (if g = f then _ else _) = _; rw [if_pos h]
    · rw [if_neg h, if_neg h]; show (if g = f then _ else _) = _; rw [if_neg h, putF_putF f u v r]

def fS (m : Nat) (w r d : Addr) (s : Nat) : List (Str × V) :=
  putF "slot" (.int s) (putF "middle" (.ref d) (putF "rows" (.ref r) (putF "waiting" (.ref w) (putF "many" (.int m) []))))
theorem n_sm : ¬ (("slot" : Str) = "middle") := by decide +kernel
theorem n_sr : ¬ (("slot" : Str) = "rows") := by decide +kernel
theorem n_sw : ¬ (("slot" : Str) = "waiting") := by decide +kernel
theorem n_sn : ¬ (("slot" : Str) = "many") := by decide +kernel
theorem n_mr : ¬ (("middle" : Str) = "rows") := by decide +kernel
theorem n_mw : ¬ (("middle" : Str) = "waiting") := by decide +kernel
theorem n_mn : ¬ (("middle" : Str) = "many") := by decide +kernel
theorem n_rw : ¬ (("rows" : Str) = "waiting") := by decide +kernel
theorem n_rn : ¬ (("rows" : Str) = "many") := by decide +kernel
theorem n_wn : ¬ (("waiting" : Str) = "many") := by decide +kernel
section
variable (m : Nat) (w r d : Addr) (s : Nat)
theorem fS_slot : (fS m w r d s).lookup ("slot" : Str) = some (.int s) := by
  unfold fS; rw [lookup_putF, if_pos rfl]
theorem fS_middle : (fS m w r d s).lookup ("middle" : Str) = some (.ref d) := by
  unfold fS; rw [lookup_putF, if_neg (fun e => n_sm e.symm), lookup_putF, if_pos rfl]
theorem fS_rows : (fS m w r d s).lookup ("rows" : Str) = some (.ref r) := by
  unfold fS; rw [lookup_putF, if_neg (fun e => n_sr e.symm), lookup_putF, if_neg (fun e => n_mr e.symm), lookup_putF, if_pos rfl]
theorem fS_waiting : (fS m w r d s).lookup ("waiting" : Str) = some (.ref w) := by
  unfold fS; rw [lookup_putF, if_neg (fun e => n_sw e.symm), lookup_putF, if_neg (fun e => n_mw e.symm), lookup_putF, if_neg (fun e => n_rw e.symm), lookup_putF, if_pos rfl]
theorem fS_many : (fS m w r d s).lookup ("many" : Str) = some (.int m) := by
  unfold fS; rw [lookup_putF, if_neg (fun e => n_sn e.symm), lookup_putF, if_neg (fun e => n_mn e.symm), lookup_putF, if_neg (fun e => n_rn e.symm), lookup_putF, if_neg (fun e => n_wn e.symm), lookup_putF, if_pos rfl]
theorem fS_no {x : Str} (h1 : ¬ x = "slot") (h2 : ¬ x = "middle") (h3 : ¬ x = "rows") (h4 : ¬ x = "waiting") (h5 : ¬ x = "many") : (fS m w r d s).lookup x = none := by
  unfold fS; rw [lookup_putF, if_neg h1, lookup_putF, if_neg h2, lookup_putF, if_neg h3, lookup_putF, if_neg h4, lookup_putF, if_neg h5]; rfl
theorem fS_put (t : Nat) : putF "slot" (.int t) (fS m w r d s) = fS m w r d t := by
  unfold fS; rw [putF_putF]
theorem fS_len : (fS m w r d s).length ≤ 5 := by
  unfold fS
  refine Nat.le_trans (length_putF _ _ _) (Nat.succ_le_succ (Nat.le_trans (length_putF _ _ _) (Nat.succ_le_succ (Nat.le_trans (length_putF _ _ _) (Nat.succ_le_succ (Nat.le_trans (length_putF _ _ _) (Nat.succ_le_succ (Nat.le_trans (length_putF _ _ _) (Nat.succ_le_succ (Nat.zero_le _))))))))))
end

/-- what the walk asks of the classes and names as the top has made them -/
structure Txt (K : PySem.W.Frag) (mg : Str → Option Value) (C I : Addr) : Prop where
  cl : Cls K C
  nMany : NoAttr K C "many"
  nWait : NoAttr K C "waiting"
  nRows : NoAttr K C "rows"
  nMid : NoAttr K C "middle"
  nSlot : NoAttr K C "slot"
  mgC : mg "Spread" = some (.ref C)
  clI : Cls K I
  nFree : NoAttr K I "free"
  mgI : mg "Ideal" = some (.ref I)
  range : mg "range" = none
  len : mg "len" = none
  tuple : mg "tuple" = none
  sum : mg "sum" = none
  max : mg "max" = none
  enumerate : mg "enumerate" = none
  sorted : mg "sorted" = none
  abs : mg "abs" = none
  int : mg "int" = none
  dict : mg "dict" = none

section
variable {P : Program} {w : World} {K : PySem.W.Frag} {mg : Str → Option Value} {base : Heap}
/-! ### joined, out_of -/
def spJoined (C : Addr) : Sp := fun vs H Q _ => ∃ (p dx ww rr dd : Addr) (m sl one : Nat), vs = [.ref p, .int one] ∧ H p = some (.ins C dx (fS m ww rr dd sl)) ∧ 0 < m ∧ Q (.int (((one + sl) % m : Nat) : Int)) H
def spOutOf (C : Addr) : Sp := fun vs H Q _ => ∃ (p dx ww rr dd : Addr) (m sl place : Nat), vs = [.ref p, .int place] ∧ H p = some (.ins C dx (fS m ww rr dd sl)) ∧ 0 < m ∧ Q (.int (((sl : Int) - (place : Int)) % (m : Int))) H
theorem scJ : FnScope ["self", "one"] ["self", "one"] (defScope sJoined) := ⟨rfl, rfl, rfl, by decide +kernel, rfl, by decide +kernel, by decide +kernel⟩
theorem ok_joined {f C I : Addr} {fd : FuncData} (F : Fun K "joined" "Spread.joined" sJoined f fd) (T : Txt K mg C I) : FnOk P w K mg base CX0 1 f fd ["self", "one"] (spJoined C) := by
  refine F.ok scJ (fun vs H Q E h => ?_) (fun cdv A outer s H vs Q E hr h => ?_)
  · obtain ⟨p, dx, ww, rr, dd, m, sl, one, rfl, _⟩ := h
    rfl
  · obtain ⟨p, dx, ww, rr, dd, m, sl, one, rfl, hp, hm, k⟩ := h
    refine ⟨_, pss_one (ps_ret (pe_op op_mod (pe_op op_add (pv 1) (pe_fld (pv 0) rfl)) (pe_fld (pv 0) rfl))), ?_⟩
    refine ⟨_, rfl, _, rfl, p, C, dx, _, _, rfl, hp, T.cl, T.nSlot, fS_slot _ _ _ _ _, _, _, rfl, rfl, _, rfl, p, C, dx, _, _, rfl, hp, T.cl, T.nMany, fS_many _ _ _ _ _, _, _, rfl, rfl, by omega, ?_⟩
    have e : ((one : Int) + (sl : Int)) % (m : Int) = (((one + sl) % m : Nat) : Int) := by norm_cast
    show Q (.int (((one : Int) + (sl : Int)) % (m : Int))) H
    rw [e]; exact k
theorem scO : FnScope ["self", "place"] ["self", "place"] (defScope sOutOf) := ⟨rfl, rfl, rfl, by decide +kernel, rfl, by decide +kernel, by decide +kernel⟩
theorem ok_outof {f C I : Addr} {fd : FuncData} (F : Fun K "out_of" "Spread.out_of" sOutOf f fd) (T : Txt K mg C I) : FnOk P w K mg base CX0 1 f fd ["self", "place"] (spOutOf C) := by
  refine F.ok scO (fun vs H Q E h => ?_) (fun cdv A outer s H vs Q E hr h => ?_)
  · obtain ⟨p, dx, ww, rr, dd, m, sl, one, rfl, _⟩ := h
    rfl
  · obtain ⟨p, dx, ww, rr, dd, m, sl, place, rfl, hp, hm, k⟩ := h
    refine ⟨_, pss_one (ps_ret (pe_op op_mod (pe_op op_sub (pe_fld (pv 0) rfl) (pv 1)) (pe_fld (pv 0) rfl))), ?_⟩
    refine ⟨_, rfl, p, C, dx, _, _, rfl, hp, T.cl, T.nSlot, fS_slot _ _ _ _ _, _, rfl, _, _, rfl, rfl, _, rfl, p, C, dx, _, _, rfl, hp, T.cl, T.nMany, fS_many _ _ _ _ _, _, _, rfl, rfl, by omega, k⟩
end
end K44

set_option Elab.async false
set_option maxRecDepth 100000
namespace K44
open PySem L2
section
variable {P : Program} {w : World} {K : PySem.W.Frag} {mg : Str → Option Value} {base : Heap}
/-! ### the dice -/
def D3 (x y z : Int) : HO := .lst [.int x, .int y, .int z]
def spRoll : Sp := fun vs H Q _ => ∃ (d : Addr) (m : Nat) (x y z : Int), vs = [.ref d, .int m] ∧ 0 < m ∧ m ≤ 10 ∧ H d = some (D3 x y z) ∧
  ∀ (x' y' z' : Int) (r : Nat), r < m → Q (.int r) (upd H d (D3 x' y' z'))
theorem scRoll : FnScope ["_law_dice_here", "_law_many", "_law_found"] ["_law_dice_here", "_law_many"] (defScope sRoll) := ⟨rfl, rfl, rfl, by decide +kernel, rfl, by decide +kernel, by decide +kernel⟩
theorem ok_roll {f C I : Addr} {fd : FuncData} (F : Fun K "_law_roll" "_law_roll" sRoll f fd) (T : Txt K mg C I) : FnOk P w K mg base CX0 1 f fd ["_law_dice_here", "_law_many"] spRoll := by
  refine F.ok scRoll (fun vs H Q E h => ?_) (fun cdv A outer s H vs Q E hr h => ?_)
  · obtain ⟨d, m, x, y, z, rfl, _⟩ := h
    rfl
  · obtain ⟨d, m, x, y, z, rfl, hm, hm2, hd, k⟩ := h
    refine ⟨_, pss_cons (ps_if (PW.pt (pw_or (pt_cmpR op_eq (pe_ix ix_list (pv 0) pe_int (fun _ _ => rfl)) pe_int (nomark _))
        (pw_or1 (PW.pt (pw_and (pt_cmpR op_eq (pe_ix ix_list (pv 0) pe_int (fun _ _ => rfl)) pe_int (nomark _)) (pw_and1 (pt_cmpR op_gt (pe_ix ix_list (pv 0) pe_int (fun _ _ => rfl)) pe_int (nomark _))))))))
        (pss_cons (ps_set (i := 2) scRoll.nd rfl (Or.inl rfl) (pe_op op_mod (pe_callTy call_int1 (by rfl) T.int (by decide +kernel) (pa_cons (pe_ix ix_list (pv 0) pe_int (fun _ _ => rfl)) pa_nil)) (pv 1)))
          (pss_cons (ps_asg (pe_op op_fdiv (pe_ix ix_list (pv 0) pe_int (fun _ _ => rfl)) (pv 1)) (pg_sub (pv 0) pe_int set_list))
          (pss_one (ps_ret (pv 2))))) pss_nil)
      (pss_cons (ps_asg pe_int (pg_sub (pv 0) pe_int set_list))
      (pss_cons (ps_asg (pe_op op_mod (pe_callTy call_int1 (by rfl) T.int (by decide +kernel) (pa_cons (pe_op op_add (pe_op op_add (pe_op op_mul (pe_ix ix_list (pv 0) pe_int (fun _ _ => rfl)) pe_int) (pe_op op_mul (pe_ix ix_list (pv 0) pe_int (fun _ _ => rfl)) pe_int)) pe_int) pa_nil)) pe_int) (pg_sub (pv 0) pe_int set_list))
      (pss_cons (ps_asg (pe_op op_add (pe_ix ix_list (pv 0) pe_int (fun _ _ => rfl)) pe_int) (pg_sub (pv 0) pe_int set_list))
      (pss_one (ps_ret (pe_op op_mod (pe_callTy call_int1 (by rfl) T.int (by decide +kernel) (pa_cons (pe_op op_add (pe_op op_fdiv (pe_ix ix_list (pv 0) pe_int (fun _ _ => rfl)) pe_int) (pe_ix ix_list (pv 0) pe_int (fun _ _ => rfl))) pa_nil)) (pv 1))))))), ?_⟩
    have fin (u : Int) (x' y' z' : Int) (H' : Hp) (e : H' = upd H d (D3 x' y' z')) : Q (.int (u % (m : Int))) H' := by
      have h1 : (0 : Int) ≤ u % (m : Int) := Int.emod_nonneg _ (by omega)
      have h2 : u % (m : Int) < (m : Int) := Int.emod_lt_of_pos _ (by omega)
      have h3 : u % (m : Int) = (((u % (m : Int)).toNat : Nat) : Int) := by omega
      rw [h3, e]
      exact k x' y' z' _ (by omega)
    refine ⟨_, rfl, d, _, _, _, rfl, rfl, SqL.of hd, rfl, rfl, _, rfl, ite2 (fun _ => iteT ?_) (fun _ => ⟨_, rfl, d, _, _, _, rfl, rfl, SqL.of hd, rfl, rfl, _, rfl,
      ite2 (fun _ => ⟨_, rfl, d, _, _, _, rfl, rfl, SqL.of hd, rfl, _, _, rfl, rfl, _, rfl, ite2 (fun _ => ?_) (fun _ => ?_)⟩) (fun _ => iteF ?_)⟩)⟩
    all_goals first
      | (refine ⟨_, rfl, d, _, _, _, rfl, rfl, SqL.of hd, rfl, .inl ⟨_, rfl, _, rfl, _, _, rfl, rfl, (by omega), ?_⟩⟩
         refine ⟨_, rfl, d, _, _, _, rfl, rfl, SqL.of hd, rfl, _, rfl, _, _, rfl, rfl, ⟨by omega, by omega⟩, _, rfl, d, _, _, 0, rfl, rfl, hd, rfl, ?_⟩
         refine ⟨_, rfl, ?_⟩
         exact fin _ _ _ _ _ rfl)
      | (refine ⟨_, rfl, d, _, _, 2, rfl, rfl, hd, rfl, ?_⟩
         refine ⟨_, rfl, d, _, _, _, rfl, rfl, SqL.of upd_same, rfl, _, _, rfl, rfl, .inr ⟨by decide, by decide⟩, _, rfl, d, _, _, _, rfl, rfl, SqL.of upd_same, rfl, _, _, rfl, rfl, .inr ⟨by decide, by decide⟩, _, _, rfl, rfl, _, _, rfl, rfl, .inl ⟨_, rfl, _, _, rfl, rfl, (by show (0 : Int) < 2147483647; decide), _, rfl, d, _, _, 0, rfl, rfl, upd_same, rfl, ?_⟩⟩
         refine ⟨_, rfl, d, _, _, _, rfl, rfl, SqL.of upd_same, rfl, _, _, rfl, rfl, _, rfl, d, _, _, 1, rfl, rfl, upd_same, rfl, ?_⟩
         refine ⟨_, rfl, d, _, _, _, rfl, rfl, SqL.of upd_same, rfl, _, _, rfl, rfl, ⟨by decide, by decide⟩, _, rfl, d, _, _, _, rfl, rfl, SqL.of upd_same, rfl, _, _, rfl, rfl, .inl ⟨_, rfl, _, rfl, _, _, rfl, rfl, (by omega), ?_⟩⟩
         exact fin _ _ _ _ _ (by rw [upd_upd, upd_upd]; rfl))
/-! ### a list beside a written empty one -/
section
variable {X : Cx}
def rNeN (K : PySem.W.Frag) : R2 := fun x y H Q => ∃ a b xs, x = .ref a ∧ y = .ref b ∧ SqL K H a xs ∧ SqL K H b [] ∧ Q (.bl (!xs.isEmpty)) H
def rEqN (K : PySem.W.Frag) : R2 := fun x y H Q => ∃ a b xs, x = .ref a ∧ y = .ref b ∧ SqL K H a xs ∧ SqL K H b [] ∧ Q (.bl xs.isEmpty) H
theorem op_neNil (hu : X.A.units < cLine) : OpR X (compareOp .NotEq) (rNeN X.K) := by
  intro pins s σ H x y v u Q I rx ry h
  obtain ⟨a, b, xs, rfl, rfl, ha, hb, q⟩ := h
  cases rx
  cases ry
  obtain ⟨its, r, pl, _⟩ := I.list ha
  obtain ⟨its2, r2, pl2, _⟩ := I.list hb
  cases r2
  cases r with
  | nil => exact SeqAt.RcNeAt.lists (e := fun _ => true) pl.isList pl2.isList rfl hu (fun j h1 => absurd h1 (by simp)) _ _ _ _ ⟨.bl _, H, I, rfl, q⟩
  | cons r rr => exact SeqAt.RcNeAt.lists_lengths pl.isList pl2.isList (by simp) hu _ _ _ _ ⟨.bl _, H, I, rfl, q⟩
theorem op_eqNil (hu : X.A.units < cLine) : OpR X (compareOp .Eq) (rEqN X.K) := by
  intro pins s σ H x y v u Q I rx ry h
  obtain ⟨a, b, xs, rfl, rfl, ha, hb, q⟩ := h
  cases rx
  cases ry
  obtain ⟨its, r, pl, _⟩ := I.list ha
  obtain ⟨its2, r2, pl2, _⟩ := I.list hb
  cases r2
  cases r with
  | nil => exact SeqAt.RcAt.lists (e := fun _ => true) pl.isList pl2.isList rfl hu (fun j h1 => absurd h1 (by simp)) _ _ _ _ ⟨.bl _, H, I, rfl, q⟩
  | cons r rr => exact SeqAt.RcAt.lists_lengths pl.isList pl2.isList (by simp) hu _ _ _ _ ⟨.bl _, H, I, rfl, q⟩
end

def spDice : Sp := fun vs H Q _ => ∃ c : Int, vs = [.int c] ∧ ∀ (d : Addr) (x y z : Int), H d = none → Q (.ref d) (upd H d (D3 x y z))
theorem scDice : FnScope ["_law_cell"] ["_law_cell"] (defScope sDice) := ⟨rfl, rfl, rfl, by decide +kernel, rfl, by decide +kernel, by decide +kernel⟩
theorem ok_dice {f C I : Addr} {fd : FuncData} (F : Fun K "_law_dice" "_law_dice" sDice f fd) (T : Txt K mg C I) : FnOk P w K mg base CX0 1 f fd ["_law_cell"] spDice := by
  refine F.ok scDice (fun vs H Q E h => ?_) (fun cdv A outer s H vs Q E hr h => ?_)
  · obtain ⟨c, rfl, _⟩ := h
    rfl
  · obtain ⟨c, rfl, k⟩ := h
    refine ⟨_, pss_cons (ps_if (pt_chain op_lt op_lt (pe_op op_sub pe_int pe_int) (pv 0) pe_int)
        (pss_one (ps_ret (pe_lst (pa_cons (pe_callB call_abs (by rfl) T.abs (by decide +kernel) (pa_cons (pv 0) pa_nil)) (pa_cons pe_int (pa_cons pe_int pa_nil)))))) pss_nil)
      (pss_one (ps_ret (pe_lst (pa_cons (pv 0) (pa_cons (pe_op op_add pe_int (pe_op op_mod (pe_callTy call_int1 (by rfl) T.int (by decide +kernel) (pa_cons (pv 0) pa_nil)) pe_int))
        (pa_cons (pe_callTy call_int1 (by rfl) T.int (by decide +kernel) (pa_cons (pe_cmpR op_ge (pv 0) (pe_op op_pow pe_int pe_int) (nomark _)) pa_nil)) pa_nil)))))), ?_⟩
    refine ⟨_, _, rfl, rfl, _, rfl, _, _, rfl, rfl, _, rfl, ite2 (fun _ => ⟨_, _, rfl, rfl, _, rfl, ite2 (fun _ => ?_) (fun _ => ?_)⟩) (fun _ => ⟨_, rfl, iteF ?_⟩)⟩
    · exact ⟨_, rfl, _, rfl, (by show (3 : Nat) ≤ sizeLine; decide), fun d hd => k d _ _ _ hd⟩
    all_goals
      refine ⟨_, rfl, _, rfl, .inl ⟨_, rfl, _, _, rfl, rfl, (by show (0 : Int) < 1009; decide), _, _, rfl, rfl, _, rfl, _, _, rfl, rfl, ⟨by decide, by decide, by decide⟩, _, _, rfl, rfl, .inr ⟨_, rfl, (by show (3 : Nat) ≤ sizeLine; decide), fun d hd => k d _ _ _ hd⟩⟩⟩

theorem same_new {H : Hp} {p : Addr} {o : HO} (h : H p = none) : Same H (upd H p o) := fun b x e => by
  rw [upd_ne (ne_of_none e h)]
  exact e
/-! ### rounds -/
def spRounds (K : PySem.W.Frag) : Sp := fun vs H Q _ => ∃ (a : Addr) (ns : List Int), vs = [.ref a, .int 1] ∧ SqL K H a (ns.map V.int) ∧
  ∀ (H' : Hp) (l d : Addr) (x y z : Int), Same H H' → H' l = some (.lst [.ref d]) → H' d = some (D3 x y z) → Q (.ref l) H'
theorem scRounds : FnScope ["_law_script", "_law_most", "_law_cells", "_law_cell"] ["_law_script", "_law_most"] (defScope sRounds) := ⟨rfl, rfl, rfl, by decide +kernel, rfl, by decide +kernel, by decide +kernel⟩
theorem cut_one (ns : List Int) : ∃ ms : List Int, cutV (ns.map V.int) none (some 1) = ms.map V.int ∧ (ms = [] ∨ ∃ n, ms = [n]) := by
  refine ⟨ns.take 1, ?_, ?_⟩
  · unfold cutV
    rw [show HT.sIx (ns.map V.int).length (ns.map V.int).length (some 1) = min 1 (ns.map V.int).length from HT.sIx_nat _ _ 1, HT.sIx_none]
    cases ns with
    | nil => rfl
    | cons n r =>
      have e : min 1 ((n :: r).map V.int).length - 0 = 1 := by simp
      rw [e]; rfl
  · cases ns with
    | nil => exact .inl rfl
    | cons n r => exact .inr ⟨n, rfl⟩
theorem dice_lc {K : PySem.W.Frag} {H H1 : Hp} {r D : Addr} {n : Int} {Q : VK} {σ : L2.St} (hl : σ.length = 4) (sm : Same H H1) (hr0 : H1 r = some (.lst [.int n])) (nD : H1 D = none)
    (k : ∀ (H' : Hp) (l d : Addr) (x y z : Int), Same H H' → H' l = some (.lst [.ref d]) → H' d = some (D3 x y z) → Q (.ref l) H') :
    ∃ W : Nat → Nat → Hp → Prop, (∃ m, W 0 m (upd H1 D (.lst []))) ∧ ∀ i m H, W i m H →
      ((Itl K r).stop i H ∧ Q (.ref D) H) ∨ ((Itl K r).go i H ∧ ∃ Nx : Hp → Prop, (∀ H', Nx H' → ∃ m', m' < m ∧ W (i + 1) m' H') ∧ ∀ x H', (Itl K r).yld i H x H' → gName 3 x (wipe σ [3]) H' fun σ2 H2 => wipe σ2 [3] = wipe σ [3] ∧ tYes σ2 H2 fun b H3 =>
        if b = true then (tCall spDice [] E0 (tCons (tVar 3) tNil)) σ2 H3 fun y H4 => ∃ acc, H4 D = some (.lst acc) ∧ acc.length < sizeLine ∧ Nx (upd H4 D (.lst (acc ++ [y]))) else Nx H3) := by
  have nrD : r ≠ D := ne_of_none hr0 nD
  refine lc_list (K := K) (a := r) (xs := [.int n]) (fun i H' => Same H H' ∧ H' r = some (.lst [.int n]) ∧ H D = none ∧ ((i = 0 ∧ H' D = some (.lst [])) ∨ ∃ d x y z, i = 1 ∧ H' D = some (.lst [.ref d]) ∧ H' d = some (D3 x y z)))
    ⟨sm.trans (same_new nD), by rw [upd_ne nrD]; exact hr0, sm.free nD, .inl ⟨rfl, upd_same⟩⟩ (fun i H' _ h => SqL.of h.2.1) ?_ ?_
  · rintro i x H' hi ⟨s1, h1, h2, h3⟩
    have hi0 : i = 0 := by
      have := (List.getElem?_eq_some_iff.mp hi).1
      simpa using this
    subst hi0
    have ex : V.int n = x := Option.some.inj hi
    subst ex
    rcases h3 with ⟨_, hD⟩ | ⟨_, _, _, _, e, _⟩
    · have es : (wipe σ [3])[3]? = some none := by
        show (σ.set 3 none)[3]? = some none
        rw [List.getElem?_set_self (by omega)]
      refine ⟨?_, ?_⟩
      · show ((wipe σ [3]).set 3 (some (V.int n))).set 3 none = wipe σ [3]
        rw [List.set_set]
        show ((σ.set 3 none).set 3 none) = σ.set 3 none
        rw [List.set_set]
      · dsimp only [tYes]
        rw [if_pos rfl]
        refine ⟨_, List.getElem?_set_self (by rw [wipe_length]; omega), n, rfl, fun d x y z nd => ?_⟩
        have ndD : D ≠ d := ne_of_none hD nd
        refine ⟨_, by rw [upd_ne ndD]; exact hD, by decide, ?_⟩
        refine ⟨fun b o e => ?_, by rw [upd_ne nrD, upd_ne (ne_of_none h1 nd)]; exact h1, h2, .inr ⟨d, x, y, z, rfl, upd_same, by rw [upd_ne (Ne.symm ndD), upd_same]⟩⟩
        rw [upd_ne (ne_of_none e h2), upd_ne (ne_of_none (s1 _ _ e) nd)]
        exact s1 _ _ e
    · cases e
  · rintro H' ⟨s1, h1, h2, h3⟩
    rcases h3 with ⟨e, _⟩ | ⟨d, x, y, z, _, h4, h5⟩
    · cases e
    · exact k H' D d x y z s1 h4 h5
theorem ok_rounds {f fD C I : Addr} {fd fdD : FuncData} (F : Fun K "_law_rounds" "_law_rounds" sRounds f fd) (T : Txt K mg C I) (FD : Fun K "_law_dice" "_law_dice" sDice fD fdD) (bD : Binds K fdD ["_law_cell"] []) (mgD : mg "_law_dice" = some (.ref fD)) :
    FnOk P w K mg base CX0 2 f fd ["_law_script", "_law_most"] (spRounds K) := by
  have GD : FnOk P w K mg base CX0 1 fD fdD ["_law_cell"] spDice := ok_dice FD T
  refine F.ok scRounds (fun vs H Q E h => ?_) (fun cdv A outer s H vs Q E hr h => ?_)
  · obtain ⟨a, ns, rfl, _⟩ := h
    rfl
  · obtain ⟨a, ns, rfl, ha, k⟩ := h
    refine ⟨_, pss_cons (ps_set (i := 2) scRounds.nd rfl (Or.inl rfl) (pe_slice sl_list (pv 0) po_none (po_some (pv 1))))
      (pss_cons (ps_if (pt_cmpR (op_eqNil hr.units0) (pv 2) (pe_lst pa_nil) (nomark _)) (pss_one (ps_set (i := 2) scRounds.nd rfl (Or.inl rfl) (pe_lst (pa_cons pe_int pa_nil)))) pss_nil)
      (pss_one (ps_ret (pe_lc (own := [("_law_cell", 3)]) (g := gName 3) (tt := tYes) rfl scRounds.nd (pi_list (pv 2)) (blkOk_by (own := [("_law_cell", 3)]) (N := ["_law_script", "_law_most", "_law_cells", "_law_cell"]) (sc := defScope sRounds) (by decide +kernel))
        (fun _ _ _ _ _ => pg_name (i := 3) scRounds.nd rfl (Or.inl rfl)) (fun _ _ _ _ _ => pts_nil) (fun _ _ _ _ _ => pe_call GD hr rfl mgD FD.kp bD .nil pass0 (pa_cons (pv 3) pa_nil)))))), ?_⟩
    obtain ⟨ms, ec, hms⟩ := cut_one ns
    refine ⟨_, rfl, _, rfl, _, rfl, a, _, rfl, ha, fun p np => ?_⟩
    rw [ec]
    refine ⟨_, rfl, Nat.zero_le _, fun q nq => ?_⟩
    have npq : p ≠ q := ne_of_none upd_same nq
    have s1 : Same H (upd (upd H p (.lst (ms.map V.int))) q (.lst [])) := (same_new np).trans (same_new nq)
    have hp : upd (upd H p (.lst (ms.map V.int))) q (.lst []) p = some (.lst (ms.map V.int)) := by rw [upd_ne npq, upd_same]
    refine ⟨p, q, _, rfl, rfl, SqL.of hp, SqL.of upd_same, _, rfl, ?_⟩
    rcases hms with e | ⟨n, e⟩
    all_goals subst e
    · refine iteT ?_
      refine ⟨(by show (1 : Nat) ≤ sizeLine; decide), fun r nr => ?_⟩
      have s2 := s1.trans (same_new (o := .lst [.int 0]) nr)
      have hr0 := upd_same (H := upd (upd H p (.lst (List.map V.int []))) q (.lst [])) (a := r) (o := .lst [.int 0])
      generalize upd (upd (upd H p (.lst (List.map V.int []))) q (.lst [])) r (.lst [.int 0]) = H1 at s2 hr0 ⊢
      refine ⟨_, rfl, r, rfl, ⟨_, SqL.of hr0⟩, fun D nD => ?_⟩
      exact dice_lc rfl s2 hr0 nD k
    · refine iteF ?_
      have hr0 := hp
      generalize upd (upd H p (.lst (List.map V.int [n]))) q (.lst []) = H1 at s1 hr0 ⊢
      refine ⟨_, rfl, p, rfl, ⟨_, SqL.of hr0⟩, fun D nD => ?_⟩
      exact dice_lc rfl s1 hr0 nD k

/-! ### flat -/
def spFlat : Sp := fun vs H Q _ => ∃ (a : Addr) (ps : List Addr) (xss : List (List V)), vs = [.ref a] ∧ H a = some (.lst (ps.map V.ref)) ∧ ps.length = xss.length ∧
  (∀ (i : Nat) (p : Addr), ps[i]? = some p → ∃ xs, xss[i]? = some xs ∧ H p = some (.lst xs)) ∧ xss.flatten.length ≤ 1000 ∧ ∀ (H' : Hp) (q : Addr), Same H H' → H q = none → H' q = some (.lst xss.flatten) → Q (.ref q) H'
theorem scFlat : FnScope ["_law_rows", "_law_found", "_law_row"] ["_law_rows"] (defScope sFlat) := ⟨rfl, rfl, rfl, by decide +kernel, rfl, by decide +kernel, by decide +kernel⟩
theorem flat_step {α : Type} {xss : List (List α)} {i : Nat} {xs : List α} (h : xss[i]? = some xs) : (xss.take (i + 1)).flatten = (xss.take i).flatten ++ xs := by
  rw [List.take_add_one, h]
  simp
theorem flat_le {α : Type} (xss : List (List α)) (i : Nat) : (xss.take i).flatten.length ≤ xss.flatten.length := by
  have e : xss.flatten.length = (xss.take i).flatten.length + (xss.drop i).flatten.length := by
    rw [← List.length_append, ← List.flatten_append, List.take_append_drop]
  omega
theorem ok_flat {f : Addr} {fd : FuncData} (F : Fun K "_law_flat" "_law_flat" sFlat f fd) : FnOk P w K mg base CX0 1 f fd ["_law_rows"] spFlat := by
  refine F.ok scFlat (fun vs H Q E h => ?_) (fun cdv A outer s H vs Q E hr h => ?_)
  · obtain ⟨a, ps, xss, rfl, _⟩ := h
    rfl
  · obtain ⟨a, ps, xss, rfl, ha, hlen, hx, hz, k⟩ := h
    refine ⟨_, pss_cons (ps_set (i := 1) scFlat.nd rfl (Or.inl rfl) (pe_lst pa_nil))
      (pss_cons (ps_for PassesOwn.never rfl (pi_list (pv 0)) (pg_name (i := 2) scFlat.nd rfl (Or.inl rfl)) (pss_one (ps_set (i := 1) scFlat.nd rfl (Or.inl rfl) (pe_op op_cat (pv 1) (pv 2)))))
      (pss_one (ps_ret (pv 1)))), ?_⟩
    refine ⟨Nat.zero_le _, fun q nq => ?_⟩
    refine ⟨_, rfl, a, rfl, ⟨_, SqL.of ((same_new nq) _ _ ha)⟩, for_list (K := K) (a := a) (xs := ps.map V.ref) (fun i σ H' => ∃ (q : Addr) (v : Option V), σ = [some (.ref a), some (.ref q), v] ∧ Same H H' ∧ H q = none ∧ H' q = some (.lst (xss.take i).flatten))
      ⟨q, none, rfl, same_new nq, nq, upd_same⟩ (fun i σ H' _ h => ?_) ?_ ?_⟩
    · obtain ⟨_, _, _, s1, _⟩ := h
      exact SqL.of (s1 _ _ ha)
    · rintro i y σ H' hi ⟨q, v, rfl, s1, _, hq⟩
      have hil : i < ps.length := by
        have h1 := (List.getElem?_eq_some_iff.mp hi).1
        rwa [List.length_map] at h1
      obtain ⟨p, hp⟩ : ∃ p, ps[i]? = some p := ⟨ps[i], List.getElem?_eq_getElem hil⟩
      have ey : V.ref p = y := by
        rw [List.getElem?_map, hp] at hi
        exact Option.some.inj hi
      subst ey
      obtain ⟨xs, e1, h1⟩ := hx i p hp
      have l1 := flat_le xss (i + 1)
      rw [flat_step e1, List.length_append] at l1
      refine ⟨_, rfl, _, rfl, q, p, _, _, rfl, rfl, hq, s1 _ _ h1, ?_, fun r nr => ?_⟩
      · exact Nat.le_trans (Nat.le_trans l1 hz) (by decide)
      · exact ⟨r, _, rfl, s1.trans (same_new nr), s1.free nr, by rw [flat_step e1]; exact upd_same⟩
    · rintro σ H' ⟨q, v, rfl, s1, q0, hq⟩
      refine ⟨_, rfl, k H' q s1 q0 ?_⟩
      rw [List.length_map, hlen, List.take_length] at hq
      exact hq

/-! ### the ideal switch's object -/
def fI (l : Addr) : List (Str × V) := putF "free" (.ref l) []
theorem fI_free (l : Addr) : (fI l).lookup ("free" : Str) = some (.ref l) := by
  unfold fI; rw [lookup_putF, if_pos rfl]
theorem fI_no (l : Addr) {x : Str} (h : ¬ x = "free") : (fI l).lookup x = none := by
  unfold fI; rw [lookup_putF, if_neg h]; rfl
def vnat (l : List Nat) : List V := l.map fun (n : Nat) => V.int (n : Int)
theorem rep_flat {α : Type} {x : α} : ∀ m : Nat, (List.replicate m [x]).flatten = List.replicate m x
  | 0 => rfl
  | n + 1 => by rw [List.replicate_succ, List.flatten_cons, List.replicate_succ, rep_flat n]; rfl
def spIdeal (I : Addr) : Sp := fun vs H Q _ => ∃ (p dx : Addr) (m : Nat), vs = [.ref p, .int m] ∧ m ≤ 1000 ∧ H p = some (.ins I dx []) ∧
  ∀ (H' : Hp) (l : Addr), H' p = some (.ins I dx (fI l)) → H' l = some (.lst (vnat (List.replicate m 0))) → H l = none → (∀ b o, H b = some o → b ≠ p → H' b = some o) → Q .non H'
def spLeaving (I : Addr) : Sp := fun vs H Q _ => ∃ (p dx l : Addr) (fr : List Nat) (g s f : Nat), vs = [.ref p, .int g, .int s] ∧ H p = some (.ins I dx (fI l)) ∧ H l = some (.lst (vnat fr)) ∧ fr[g]? = some f ∧ f ≤ s ∧
  Q (.int s) (upd H l (.lst (vnat (fr.set g (s + 1)))))
theorem scIdeal : FnScope ["self", "many"] ["self", "many"] (defScope sIdeal) := ⟨rfl, rfl, rfl, by decide +kernel, rfl, by decide +kernel, by decide +kernel⟩
theorem ok_ideal {f C I : Addr} {fd : FuncData} (F : Fun K "__init__" "Ideal.__init__" sIdeal f fd) (T : Txt K mg C I) : FnOk P w K mg base CX0 1 f fd ["self", "many"] (spIdeal I) := by
  refine F.ok scIdeal (fun vs H Q E h => ?_) (fun cdv A outer s H vs Q E hr h => ?_)
  · obtain ⟨p, dx, m, rfl, _⟩ := h
    rfl
  · obtain ⟨p, dx, m, rfl, hm, hp, k⟩ := h
    refine ⟨_, pss_one (ps_fld (pv 0) (pe_op op_rep (pe_lst (pa_cons pe_int pa_nil)) (pv 1)) rfl), ?_⟩
    refine ⟨(by show (1 : Nat) ≤ sizeLine; decide), fun q nq => ?_⟩
    refine ⟨_, rfl, q, _, _, rfl, rfl, upd_same, by omega, by omega, ?_, fun l nl => ?_⟩
    · have e : [V.int 0].length * (m : Int).toNat = m := by simp
      rw [e]
      exact Nat.le_trans hm (by decide)
    have npq : p ≠ q := ne_of_none hp nq
    have npl : p ≠ l := fun e => by
      rw [← e, upd_ne npq, hp] at nl
      cases nl
    have nl0 : H l = none := by
      rw [upd_ne (fun e => by rw [e, upd_same] at nl; cases nl)] at nl
      exact nl
    refine ⟨_, rfl, p, I, dx, _, rfl, (by rw [upd_ne npl, upd_ne npq]; exact hp), T.clI, T.nFree, (by show 0 < 1000; decide), ?_⟩
    refine k _ l upd_same ?_ nl0 fun b o e hb => ?_
    · rw [upd_ne (Ne.symm npl), upd_same]
      have e2 : (List.replicate (m : Int).toNat [V.int 0]).flatten = vnat (List.replicate m 0) := by
        unfold vnat
        rw [Int.toNat_natCast, List.map_replicate]
        exact rep_flat m
      rw [e2]
    · rw [upd_ne hb, upd_ne (ne_of_none e nl0), upd_ne (ne_of_none e nq)]
      exact e
theorem scLeaving : FnScope ["self", "gate", "slot", "found"] ["self", "gate", "slot"] (defScope sLeaving) := ⟨rfl, rfl, rfl, by decide +kernel, rfl, by decide +kernel, by decide +kernel⟩
theorem ok_leaving {f C I : Addr} {fd : FuncData} (F : Fun K "leaving" "Ideal.leaving" sLeaving f fd) (T : Txt K mg C I) : FnOk P w K mg base CX0 1 f fd ["self", "gate", "slot"] (spLeaving I) := by
  refine F.ok scLeaving (fun vs H Q E h => ?_) (fun cdv A outer s H vs Q E hr h => ?_)
  · obtain ⟨p, dx, l, fr, g, s, f, rfl, _⟩ := h
    rfl
  · obtain ⟨p, dx, l, fr, g, sl, fv, rfl, hp, hl, hg, hle, k⟩ := h
    have hgl : g < fr.length := (List.getElem?_eq_some_iff.mp hg).1
    have nlp : l ≠ p := ne_of hl hp (by intro z; cases z)
    refine ⟨_, pss_cons (ps_set (i := 3) scLeaving.nd rfl (Or.inl rfl) (pe_callB (call_max2 rfl) (by rfl) T.max (by decide +kernel) (pa_cons (pv 2) (pa_cons (pe_ix ix_list (pe_fld (pv 0) rfl) (pv 1) (fun _ _ => rfl)) pa_nil))))
      (pss_cons (ps_asg (pe_op op_add (pv 3) pe_int) (pg_sub (pe_fld (pv 0) rfl) (pv 1) set_list)) (pss_one (ps_ret (pv 3)))), ?_⟩
    have hat : (vnat fr)[g]? = some (.int fv) := by unfold vnat; rw [List.getElem?_map, hg]; rfl
    refine ⟨_, rfl, _, rfl, p, I, dx, _, _, rfl, hp, T.clI, T.nFree, fI_free _, _, rfl, l, _, _, _, rfl, rfl, SqL.of hl, atI_nat hat, _, _, rfl, ?_⟩
    have em : (if (fv : Int) > (sl : Int) then (fv : Int) else (sl : Int)) = (sl : Int) := by rw [if_neg (by omega)]
    rw [em]
    refine ⟨_, rfl, _, _, rfl, rfl, _, rfl, p, I, dx, _, _, rfl, hp, T.clI, T.nFree, fI_free _, _, rfl, l, _, _, g, rfl, rfl, hl, ?_, ?_⟩
    · unfold ixN
      rw [if_pos (by omega), if_pos (by unfold vnat; rw [List.length_map]; omega)]
      simp
    · refine ⟨_, rfl, ?_⟩
      have e : (vnat fr).set g (.int ((sl : Int) + 1)) = vnat (fr.set g (sl + 1)) := by
        unfold vnat
        rw [List.map_set]
        rfl
      show Q (.int sl) (upd H l (.lst ((vnat fr).set g (.int ((sl : Int) + 1)))))
      rw [e]
      exact k
end
end K44

namespace K44

/-- a loop by its number of turns, each of which may fail -/
def iter {α : Type} (f : Nat → α → Option α) : Nat → α → Option α
  | 0, s => some s
  | n + 1, s => match iter f n s with
    | some t => f n t
    | none => none

theorem iter_at {α : Type} {f : Nat → α → Option α} : ∀ {n : Nat} {s r : α}, iter f n s = some r → ∀ i, i < n → ∃ t u, iter f i s = some t ∧ f i t = some u ∧ iter f (i + 1) s = some u
  | 0, _, _, _, i, hi => absurd hi (Nat.not_lt_zero i)
  | n + 1, s, r, h, i, hi => by
    have h' : (match iter f n s with | some t => f n t | none => none) = some r := h
    cases e : iter f n s with
    | none => rw [e] at h'; cases h'
    | some t =>
      rw [e] at h'
      by_cases hn : i = n
      · subst hn
        exact ⟨t, r, e, h', h⟩
      · exact iter_at e i (by omega)

structure S where
  wait : List (List (List Nat))
  rows : List (List (Nat × List Nat))
  mid : List (List (List (Nat × Nat)))
  slot : Nat
  deriving DecidableEq

def get2 {α : Type} (l : List (List α)) (i j : Nat) : Option α :=
  match l[i]? with
  | some r => r[j]?
  | none => none
def set2 {α : Type} (l : List (List α)) (i j : Nat) (x : α) : List (List α) :=
  match l[i]? with
  | some r => l.set i (r.set j x)
  | none => l

def init (m : Nat) : S := ⟨List.replicate m (List.replicate m []), List.replicate m [], List.replicate m (List.replicate m []), 0⟩

def cap : Nat := 1000

def put (m one gate c : Nat) (s : S) : Option S :=
  match get2 s.wait one gate, s.rows[one]? with
  | some q, some r =>
    if q.length < cap ∧ r.length < cap then
      if q.length + 1 = m then some { s with rows := s.rows.set one (r ++ [(gate, q ++ [c])]), wait := set2 s.wait one gate [] }
      else some { s with wait := set2 s.wait one gate (q ++ [c]) }
    else none
  | _, _ => none

def stepA (m : Nat) (one : Nat) (s : S) : Option S :=
  match s.rows[one]? with
  | none => none
  | some [] => some s
  | some ((gate, cells) :: rest) =>
    if (one + s.slot) % m = 0 ∨ cells.length < m then
      match cells, get2 s.mid ((one + s.slot) % m) gate with
      | c :: cs, some q =>
        if q.length < cap ∧ gate < m then
          some { s with mid := set2 s.mid ((one + s.slot) % m) gate (q ++ [(one, c)]),
                        rows := s.rows.set one (if cs = [] then rest else (gate, cs) :: rest) }
        else none
      | _, _ => none
    else some s

/-- (slot - place) % many, as Python has it -/
def gateOf (m slot place : Nat) : Nat := (((slot : Int) - (place : Int)) % (m : Int)).toNat

def stepB (m : Nat) (place : Nat) (p : S × List (Nat × Nat × Nat)) : Option (S × List (Nat × Nat × Nat)) :=
  match get2 p.1.mid place (gateOf m p.1.slot place) with
  | none => none
  | some [] => some p
  | some ((one, c) :: q) => if p.2.length < cap then some ({ p.1 with mid := set2 p.1.mid place (gateOf m p.1.slot place) q }, p.2 ++ [(one, gateOf m p.1.slot place, c)]) else none

def turn (m : Nat) (s : S) : Option (S × List (Nat × Nat × Nat)) :=
  match iter (stepA m) m s with
  | none => none
  | some s1 => match iter (stepB m) m (s1, []) with
    | none => none
    | some (s2, out) => some ({ s2 with slot := s2.slot + 1 }, out)

/-- the streams, a cell a slot: (one, gate) by slot -/
def arrive (m : Nat) (left : List (Nat × Nat)) : List (Nat × Nat) := left.flatMap fun p => List.replicate m p

/-- one slot of the law's loop -/
def slotStep (m : Nat) (arr : List (Nat × Nat)) (k : Nat) (p : S × List (List (Nat × Nat × Nat))) : Option (S × List (List (Nat × Nat × Nat))) :=
  let s1 := match arr[k]? with
    | some (one, gate) => put m one gate k p.1
    | none => some p.1
  match s1 with
  | none => none
  | some s1 => match turn m s1 with
    | none => none
    | some (s2, out) => some (s2, p.2 ++ [out])

def slotsOf (m n : Nat) : Nat := n + 8 * m * m + 4

def run (m : Nat) (arr : List (Nat × Nat)) : Option (S × List (List (Nat × Nat × Nat))) := iter (slotStep m arr) (slotsOf m arr.length) (init m, [])

/-- all the waits are bare -/
def bare (m : Nat) (s : S) : Bool := decide (s.wait = List.replicate m (List.replicate m [])) && decide (s.rows = List.replicate m []) && decide (s.mid = List.replicate m (List.replicate m []))

def lefts (m : Nat) : Nat → List (List Nat)
  | 0 => [[]]
  | n + 1 => (lefts m n).flatMap fun l => (List.range m).map fun g => l ++ [g]
def leftOf (m : Nat) (gs : List Nat) : List (Nat × Nat) := (List.range gs.length).zip gs |>.map fun p => (p.1 % m, p.2)

def good (m : Nat) (gs : List Nat) : Bool :=
  match run m (arrive m (leftOf m gs)) with
  | none => false
  | some (s, sent) => bare m s && (sent.all fun row => decide ((row.map (·.2.1)).Nodup)) && decide (sent.flatten.length = (arrive m (leftOf m gs)).length)

def all3 : Bool := [1, 2, 3].all fun m => [0, 1, 2, 3].all fun n => (lefts m n).all fun gs => good m gs
end K44

set_option Elab.async false
set_option maxRecDepth 100000
namespace K44
open PySem L2

/-! ### tuples that stand -/
def TupV (H : Hp) (v : V) (xs : List V) : Prop := ∃ t, v = .ref t ∧ H t = some (.tup xs)
def Tups (H H' : Hp) : Prop := ∀ (b : Addr) (xs : List V), H b = some (.tup xs) → H' b = some (.tup xs)
theorem Tups.same {H H' : Hp} (s : Same H H') : Tups H H' := fun b _ h => s b _ h
theorem Tups.trans {H H1 H2 : Hp} (a : Tups H H1) (b : Tups H1 H2) : Tups H H2 := fun c xs h => b c xs (a c xs h)
theorem Tups.lst {H : Hp} {p : Addr} {o : HO} {ys : List V} (h : H p = some (.lst ys)) : Tups H (upd H p o) := fun b xs e => by
  rw [upd_ne (ne_of e h (by intro z; cases z))]; exact e
theorem Tups.ins {H : Hp} {p C dx : Addr} {o : HO} {fs : List (Str × V)} (h : H p = some (.ins C dx fs)) : Tups H (upd H p o) := fun b xs e => by
  rw [upd_ne (ne_of e h (by intro z; cases z))]; exact e
theorem TupV.mono {H H' : Hp} (t : Tups H H') {v : V} {xs : List V} (h : TupV H v xs) : TupV H' v xs := let ⟨a, e, q⟩ := h; ⟨a, e, t a xs q⟩
def RowV (ca : Nat → V) (H : Hp) (v : V) (r : Nat × List Nat) : Prop := ∃ u, TupV H v [.int r.1, u] ∧ TupV H u (r.2.map ca)
def MidV (ca : Nat → V) (H : Hp) (v : V) (q : Nat × Nat) : Prop := TupV H v [.int q.1, ca q.2]
def OutV (ca : Nat → V) (H : Hp) (v : V) (o : Nat × Nat × Nat) : Prop := TupV H v [.int o.1, .int o.2.1, ca o.2.2]
theorem RowV.mono {ca : Nat → V} {H H' : Hp} (t : Tups H H') {v : V} {r : Nat × List Nat} (h : RowV ca H v r) : RowV ca H' v r := let ⟨u, a, b⟩ := h; ⟨u, a.mono t, b.mono t⟩
theorem pair_mono {α β : Type} {F G : α → β → Prop} {l : List α} {l' : List β} (h : Paired F l l') (f : ∀ a b, F a b → G a b) : Paired G l l' := Paired.mapP h f
theorem pair_app {α β : Type} {F : α → β → Prop} : ∀ {l : List α} {l' : List β} {a : α} {b : β}, Paired F l l' → F a b → Paired F (l ++ [a]) (l' ++ [b])
  | _, _, _, _, .nil, h => .cons h .nil
  | _, _, _, _, .cons r t, h => .cons r (pair_app t h)
theorem pair_len {α β : Type} {F : α → β → Prop} {l : List α} {l' : List β} (h : Paired F l l') : l.length = l'.length := Paired.length h

/-! ### where the parts of a Spread stand -/
inductive Ky where
  | ins | W | R | M | Wr (i : Nat) | Mr (i : Nat) | Rr (i : Nat) | Wq (i j : Nat) | Mq (i j : Nat)
  deriving DecidableEq
def Ky.ok (m : Nat) : Ky → Prop
  | .ins => True
  | .W => True
  | .R => True
  | .M => True
  | .Wr i => i < m
  | .Mr i => i < m
  | .Rr i => i < m
  | .Wq i j => i < m ∧ j < m
  | .Mq i j => i < m ∧ j < m
def refs (m : Nat) (f : Nat → Addr) : List V := (List.range m).map fun i => V.ref (f i)
theorem refs_at {m : Nat} {f : Nat → Addr} {i : Nat} (h : i < m) : (refs m f)[i]? = some (.ref (f i)) := by
  unfold refs
  rw [List.getElem?_map, List.getElem?_range h]; rfl
theorem refs_len (m : Nat) (f : Nat → Addr) : (refs m f).length = m := by unfold refs; simp
theorem refs_set {m : Nat} {f g : Nat → Addr} {j : Nat} {p : Addr} (hj : g j = p) (hn : ∀ i, i ≠ j → g i = f i) : (refs m f).set j (.ref p) = refs m g := by
  apply List.ext_getElem?
  intro i
  by_cases hi : i < m
  · by_cases e : j = i
    · subst e
      rw [List.getElem?_set_self (by rw [refs_len]; exact hi), refs_at hi, hj]
    · rw [List.getElem?_set_ne e, refs_at hi, refs_at hi, hn i (Ne.symm e)]
  · rw [List.getElem?_eq_none (by rw [List.length_set, refs_len]; omega), List.getElem?_eq_none (by rw [refs_len]; omega)]

def Cont (C : Addr) (m : Nat) (ca : Nat → V) (ad : Ky → Addr) (s : S) (H : Hp) : Ky → Prop
  | .ins => ∃ dx, H (ad .ins) = some (.ins C dx (fS m (ad .W) (ad .R) (ad .M) s.slot))
  | .W => H (ad .W) = some (.lst (refs m fun i => ad (.Wr i)))
  | .R => H (ad .R) = some (.lst (refs m fun i => ad (.Rr i)))
  | .M => H (ad .M) = some (.lst (refs m fun i => ad (.Mr i)))
  | .Wr i => H (ad (.Wr i)) = some (.lst (refs m fun j => ad (.Wq i j)))
  | .Mr i => H (ad (.Mr i)) = some (.lst (refs m fun j => ad (.Mq i j)))
  | .Rr i => ∃ rs vs, s.rows[i]? = some rs ∧ H (ad (.Rr i)) = some (.lst vs) ∧ Paired (RowV ca H) vs rs
  | .Wq i j => ∃ q, get2 s.wait i j = some q ∧ H (ad (.Wq i j)) = some (.lst (q.map ca))
  | .Mq i j => ∃ q vs, get2 s.mid i j = some q ∧ H (ad (.Mq i j)) = some (.lst vs) ∧ Paired (MidV ca H) vs q
structure Rep (C : Addr) (m : Nat) (ca : Nat → V) (ad : Ky → Addr) (s : S) (H : Hp) : Prop where
  inj : ∀ k k', k.ok m → k'.ok m → ad k = ad k' → k = k'
  all : ∀ k, k.ok m → Cont C m ca ad s H k
/-- beside all that stands in H0 -/
structure At (C : Addr) (m : Nat) (ca : Nat → V) (ad : Ky → Addr) (s : S) (H0 H : Hp) : Prop where
  rep : Rep C m ca ad s H
  same : Same H0 H
  out : ∀ k, k.ok m → H0 (ad k) = none

section
variable {C : Addr} {m : Nat} {ca : Nat → V} {ad : Ky → Addr} {s s' : S} {H0 H H' : Hp}
theorem Cont.keep {k : Ky} (c : Cont C m ca ad s H k) (e : H' (ad k) = H (ad k)) (t : Tups H H') : Cont C m ca ad s H' k := by
  cases k with
  | ins => obtain ⟨dx, q⟩ := c; exact ⟨dx, e.trans q⟩
  | W => exact e.trans c
  | R => exact e.trans c
  | M => exact e.trans c
  | Wr i => exact e.trans c
  | Mr i => exact e.trans c
  | Rr i => obtain ⟨rs, vs, a, b, p⟩ := c; exact ⟨rs, vs, a, e.trans b, pair_mono p fun _ _ z => z.mono t⟩
  | Wq i j => obtain ⟨q, a, b⟩ := c; exact ⟨q, a, e.trans b⟩
  | Mq i j => obtain ⟨q, vs, a, b, p⟩ := c; exact ⟨q, vs, a, e.trans b, pair_mono p fun _ _ z => TupV.mono t z⟩
theorem Cont.there {k : Ky} (c : Cont C m ca ad s H k) : ∃ o, H (ad k) = some o ∧ ∀ xs, o ≠ .tup xs := by
  cases k with
  | ins => obtain ⟨dx, q⟩ := c; exact ⟨_, q, fun xs z => by cases z⟩
  | W => exact ⟨_, c, fun xs z => by cases z⟩
  | R => exact ⟨_, c, fun xs z => by cases z⟩
  | M => exact ⟨_, c, fun xs z => by cases z⟩
  | Wr i => exact ⟨_, c, fun xs z => by cases z⟩
  | Mr i => exact ⟨_, c, fun xs z => by cases z⟩
  | Rr i => obtain ⟨rs, vs, a, b, p⟩ := c; exact ⟨_, b, fun xs z => by cases z⟩
  | Wq i j => obtain ⟨q, a, b⟩ := c; exact ⟨_, b, fun xs z => by cases z⟩
  | Mq i j => obtain ⟨q, vs, a, b, p⟩ := c; exact ⟨_, b, fun xs z => by cases z⟩
theorem At.mono (a : At C m ca ad s H0 H) (sm : Same H H') : At C m ca ad s H0 H' :=
  ⟨⟨a.rep.inj, fun k hk => by
    obtain ⟨o, h, _⟩ := (a.rep.all k hk).there
    exact (a.rep.all k hk).keep ((sm _ _ h).trans h.symm) (Tups.same sm)⟩, a.same.trans sm, a.out⟩
theorem At.ne (a : At C m ca ad s H0 H) {k k' : Ky} (h : k.ok m) (h' : k'.ok m) (e : k ≠ k') : ad k ≠ ad k' := fun q => e (a.rep.inj k k' h h' q)
theorem At.fresh (a : At C m ca ad s H0 H) {k : Ky} (h : k.ok m) {p : Addr} (hp : H p = none) : ad k ≠ p := by
  obtain ⟨o, e, _⟩ := (a.rep.all k h).there
  exact ne_of_none e hp
/-- one part is written -/
theorem At.write (a : At C m ca ad s H0 H) {k0 : Ky} (h0 : k0.ok m) {o : HO} (new : Cont C m ca ad s' (upd H (ad k0) o) k0)
    (other : ∀ k, k.ok m → k ≠ k0 → Cont C m ca ad s (upd H (ad k0) o) k → Cont C m ca ad s' (upd H (ad k0) o) k) : At C m ca ad s' H0 (upd H (ad k0) o) := by
  have tu : Tups H (upd H (ad k0) o) := fun b xs e => by
    obtain ⟨u, hu, nt⟩ := (a.rep.all k0 h0).there
    rw [upd_ne (fun z => by rw [z, hu] at e; exact nt xs (Option.some.inj e))]
    exact e
  refine ⟨⟨a.rep.inj, fun k hk => ?_⟩, fun b u e => ?_, a.out⟩
  · by_cases e : k = k0
    · subst e; exact new
    · exact other k hk e ((a.rep.all k hk).keep (upd_ne (a.ne hk h0 e)) tu)
  · rw [upd_ne (fun z => by rw [z, a.out k0 h0] at e; cases e)]
    exact a.same b u e
end

/-! ### lists of lists -/
theorem get2_set2_self {α : Type} {l : List (List α)} {i j : Nat} {x y : α} (h : get2 l i j = some y) : get2 (set2 l i j x) i j = some x := by
  unfold get2 at h
  cases e : l[i]? with
  | none => rw [e] at h; cases h
  | some r =>
    rw [e] at h
    have hi : i < l.length := (List.getElem?_eq_some_iff.mp e).1
    have hj : j < r.length := (List.getElem?_eq_some_iff.mp h).1
    unfold get2 set2
    rw [e]
    show (match (l.set i (r.set j x))[i]? with | some r => r[j]? | none => none) = some x
    rw [List.getElem?_set_self hi]
    exact List.getElem?_set_self hj
theorem get2_set2_ne {α : Type} {l : List (List α)} {i j i' j' : Nat} {x : α} (h : ¬ (i' = i ∧ j' = j)) : get2 (set2 l i j x) i' j' = get2 l i' j' := by
  unfold set2
  cases e : l[i]? with
  | none => rfl
  | some r =>
    have hi : i < l.length := (List.getElem?_eq_some_iff.mp e).1
    show get2 (l.set i (r.set j x)) i' j' = _
    unfold get2
    by_cases ei : i' = i
    · subst ei
      have ej : j ≠ j' := fun z => h ⟨rfl, z.symm⟩
      rw [List.getElem?_set_self hi, e]
      exact List.getElem?_set_ne ej
    · rw [List.getElem?_set_ne (Ne.symm ei)]

section
variable {C : Addr} {m : Nat} {ca : Nat → V} {ad : Ky → Addr} {s : S} {H0 H : Hp}
theorem At.setMq (a : At C m ca ad s H0 H) {i j : Nat} (hi : i < m) (hj : j < m) {q' : List (Nat × Nat)} {vs' : List V} (p : Paired (MidV ca H) vs' q') :
    At C m ca ad { s with mid := set2 s.mid i j q' } H0 (upd H (ad (.Mq i j)) (.lst vs')) := by
  obtain ⟨q, vs, e1, e2, _⟩ := a.rep.all (.Mq i j) ⟨hi, hj⟩
  refine a.write (k0 := .Mq i j) ⟨hi, hj⟩ ⟨q', vs', get2_set2_self e1, upd_same, pair_mono p fun _ _ z => TupV.mono (Tups.lst e2) z⟩ fun k hk ne c => ?_
  cases k with
  | Mq i' j' =>
    obtain ⟨q, vs, f1, f2, f3⟩ := c
    exact ⟨q, vs, (get2_set2_ne (fun z => ne (by rw [z.1, z.2]))).trans f1, f2, f3⟩
  | _ => exact c
theorem At.setRr (a : At C m ca ad s H0 H) {i : Nat} (hi : i < m) {rs' : List (Nat × List Nat)} {vs' : List V} (p : Paired (RowV ca H) vs' rs') :
    At C m ca ad { s with rows := s.rows.set i rs' } H0 (upd H (ad (.Rr i)) (.lst vs')) := by
  obtain ⟨rs, vs, e1, e2, _⟩ := a.rep.all (.Rr i) hi
  have hl : i < s.rows.length := (List.getElem?_eq_some_iff.mp e1).1
  refine a.write (k0 := .Rr i) hi ⟨rs', vs', List.getElem?_set_self hl, upd_same, pair_mono p fun _ _ z => RowV.mono (Tups.lst e2) z⟩ fun k hk ne c => ?_
  cases k with
  | Rr i' =>
    obtain ⟨q, vs, f1, f2, f3⟩ := c
    exact ⟨q, vs, (List.getElem?_set_ne (fun z => ne (by rw [z]))).trans f1, f2, f3⟩
  | _ => exact c
theorem At.setWq (a : At C m ca ad s H0 H) {i j : Nat} (hi : i < m) (hj : j < m) (q' : List Nat) :
    At C m ca ad { s with wait := set2 s.wait i j q' } H0 (upd H (ad (.Wq i j)) (.lst (q'.map ca))) := by
  obtain ⟨q, e1, e2⟩ := a.rep.all (.Wq i j) ⟨hi, hj⟩
  refine a.write (k0 := .Wq i j) ⟨hi, hj⟩ ⟨q', get2_set2_self e1, upd_same⟩ fun k hk ne c => ?_
  cases k with
  | Wq i' j' =>
    obtain ⟨q, f1, f2⟩ := c
    exact ⟨q, (get2_set2_ne (fun z => ne (by rw [z.1, z.2]))).trans f1, f2⟩
  | _ => exact c
theorem At.setSlot (a : At C m ca ad s H0 H) {dx : Addr} (t : Nat) :
    At C m ca ad { s with slot := t } H0 (upd H (ad .ins) (.ins C dx (fS m (ad .W) (ad .R) (ad .M) t))) := by
  refine a.write (k0 := .ins) trivial ⟨dx, upd_same⟩ fun k hk ne c => ?_
  cases k with
  | ins => exact absurd rfl ne
  | _ => exact c
def adNew (ad : Ky → Addr) (i j : Nat) (p : Addr) : Ky → Addr := fun k => if k = .Wq i j then p else ad k
/-- a new list takes the place of a queue that waits -/
theorem At.newWq (a : At C m ca ad s H0 H) {i j : Nat} (hi : i < m) (hj : j < m) {p : Addr} (hp : H p = none) {q' : List Nat} :
    At C m ca (adNew ad i j p) { s with wait := set2 s.wait i j q' } H0
      (upd (upd H p (.lst (q'.map ca))) (ad (.Wr i)) (.lst ((refs m fun j => ad (.Wq i j)).set j (.ref p)))) := by
  have hW := a.rep.all (.Wr i) hi
  have hW : H (ad (.Wr i)) = some (.lst (refs m fun j => ad (.Wq i j))) := hW
  have np : ∀ k, k.ok m → ad k ≠ p := fun k hk => a.fresh hk hp
  have sm : Same H (upd H p (.lst (q'.map ca))) := same_new hp
  have a1 := a.mono sm
  have tu : Tups (upd H p (.lst (q'.map ca))) (upd (upd H p (.lst (q'.map ca))) (ad (.Wr i)) (.lst ((refs m fun j => ad (.Wq i j)).set j (.ref p)))) := Tups.lst (sm _ _ hW)
  have adn : ∀ k, k ≠ .Wq i j → (adNew ad i j p) k = ad k := fun k h => if_neg h
  have ads : (adNew ad i j p) (.Wq i j) = p := if_pos rfl
  obtain ⟨q, e1, e2⟩ := a.rep.all (.Wq i j) ⟨hi, hj⟩
  refine ⟨⟨fun k k' hk hk' e => ?_, fun k hk => ?_⟩, fun b o e => ?_, fun k hk => ?_⟩
  · by_cases h : k = .Wq i j
    · by_cases h' : k' = .Wq i j
      · rw [h, h']
      · exact absurd ((adn k' h').symm.trans (e.symm.trans (by rw [h]; exact ads))) (np k' hk')
    · by_cases h' : k' = .Wq i j
      · exact absurd ((adn k h).symm.trans (e.trans (by rw [h']; exact ads))) (np k hk)
      · exact a.rep.inj k k' hk hk' (by rw [← adn k h, ← adn k' h']; exact e)
  · by_cases h : k = .Wq i j
    · subst h
      refine ⟨q', get2_set2_self e1, ?_⟩
      rw [ads, upd_ne (Ne.symm (np (.Wr i) hi)), upd_same]
    · by_cases h2 : k = .Wr i
      · subst h2
        show upd _ _ _ _ = some (.lst (refs m fun j' => _))
        rw [adn _ h, upd_same]
        congr 2
        refine refs_set (g := fun j' => (adNew ad i j p) (.Wq i j')) ads fun j' hn => ?_
        exact adn _ (fun z => hn (by injection z))
      · have c := (a1.rep.all k hk).keep (H' := upd (upd H p (.lst (q'.map ca))) (ad (.Wr i)) (.lst ((refs m fun j => ad (.Wq i j)).set j (.ref p)))) (upd_ne (a.ne hk hi h2)) tu
        cases k with
        | ins => exact c
        | W => exact c
        | R => exact c
        | M => exact c
        | Wr i' =>
          show upd _ _ _ _ = some (.lst (refs m fun j' => _))
          have c' : upd _ _ _ (ad (.Wr i')) = some (.lst (refs m fun j' => ad (.Wq i' j'))) := c
          rw [adn _ h, c']
          congr 2
          unfold refs
          refine List.map_congr_left fun j' _ => ?_
          show V.ref (ad (.Wq i' j')) = V.ref (adNew ad i j p (.Wq i' j'))
          rw [adn (.Wq i' j') (fun z => h2 (by injection z with z1 z2; rw [z1]))]
        | Mr i' => exact c
        | Rr i' => exact c
        | Mq i' j' => exact c
        | Wq i' j' =>
          obtain ⟨q2, f1, f2⟩ := c
          refine ⟨q2, (get2_set2_ne (fun z => h (by rw [z.1, z.2]))).trans f1, ?_⟩
          rw [adn _ h]; exact f2
  · have h1 := a.same b o e
    have nb : b ≠ ad (.Wr i) := fun z => by rw [z, a.out (.Wr i) hi] at e; cases e
    rw [upd_ne nb, upd_ne (ne_of_none h1 hp)]
    exact h1
  · by_cases h : k = .Wq i j
    · subst h; rw [ads]; exact a.same.free hp
    · rw [adn k h]; exact a.out k hk
end
end K44

set_option Elab.async false
set_option maxRecDepth 100000
namespace K44
open PySem L2
theorem set2_set2 {α : Type} (l : List (List α)) (i j : Nat) (x y : α) : set2 (set2 l i j x) i j y = set2 l i j y := by
  unfold set2
  cases e : l[i]? with
  | none => dsimp only; rw [e]
  | some r =>
    have hi : i < l.length := (List.getElem?_eq_some_iff.mp e).1
    dsimp only
    rw [List.getElem?_set_self hi]
    dsimp only
    rw [List.set_set, List.set_set]
section
variable {P : Program} {w : World} {K : PySem.W.Frag} {mg : Str → Option Value} {base : Heap}
def spPut (C : Addr) : Sp := fun vs H Q _ => ∃ (m : Nat) (ca : Nat → V) (ad : Ky → Addr) (s : S) (H0 : Hp) (one gate c : Nat) (s' : S), vs = [.ref (ad .ins), .int one, .int gate, ca c] ∧
  one < m ∧ gate < m ∧ At C m ca ad s H0 H ∧ put m one gate c s = some s' ∧ ∀ (H' : Hp) (ad' : Ky → Addr), At C m ca ad' s' H0 H' → ad' .ins = ad .ins → Q .non H'
theorem scPut : FnScope ["self", "one", "gate", "cell", "queue"] ["self", "one", "gate", "cell"] (defScope sPut) := ⟨rfl, rfl, rfl, by decide +kernel, rfl, by decide +kernel, by decide +kernel⟩
theorem ok_put {f C I : Addr} {fd : FuncData} (F : Fun K "put" "Spread.put" sPut f fd) (T : Txt K mg C I) : FnOk P w K mg base CX0 1 f fd ["self", "one", "gate", "cell"] (spPut C) := by
  refine F.ok scPut (fun vs H Q E h => ?_) (fun cdv A outer s H vs Q E hr h => ?_)
  · obtain ⟨m, ca, ad, s, H0, one, gate, c, s', rfl, _⟩ := h
    rfl
  · obtain ⟨m, ca, ad, st, H0, one, gate, c, s', rfl, h1, h2, a, hput, k⟩ := h
    refine ⟨_, pss_cons (ps_if (PW.pt (pw_or (pt_not (pt_chain op_le op_lt pe_int (pv 1) (pe_fld (pv 0) rfl))) (pw_or1 (pt_not (pt_chain op_le op_lt pe_int (pv 2) (pe_fld (pv 0) rfl)))))) pss_never pss_nil)
      (pss_cons (ps_set (i := 4) scPut.nd rfl (Or.inl rfl) (pe_ix ix_list (pe_ix ix_list (pe_fld (pv 0) rfl) (pv 1) (fun _ _ => rfl)) (pv 2) (fun _ _ => rfl)))
      (pss_cons (ps_expr (pe_bm PySem.F.plainAttrs_list PySem.F.slot_list_append PySem.F.type_list_append mt_append (pv 4) (pa_cons (pv 3) pa_nil)))
      (pss_one (ps_if (pt_cmpR op_eq (pe_callB call_len_seq (by rfl) T.len PySem.boot_len (pa_cons (pv 4) pa_nil)) (pe_fld (pv 0) rfl) (nomark _))
        (pss_cons (ps_expr (pe_bm PySem.F.plainAttrs_list PySem.F.slot_list_append PySem.F.type_list_append mt_append (pe_ix ix_list (pe_fld (pv 0) rfl) (pv 1) (fun _ _ => rfl))
            (pa_cons (pe_tup (pa_cons (pv 2) (pa_cons (pe_callTy call_tuple_of (by rfl) T.tuple (by decide +kernel) (pa_cons (pv 4) pa_nil)) pa_nil))) pa_nil)))
          (pss_one (ps_asg (pe_lst pa_nil) (pg_sub (pe_ix ix_list (pe_fld (pv 0) rfl) (pv 1) (fun _ _ => rfl)) (pv 2) set_list)))) pss_nil)))), ?_⟩
    obtain ⟨dx, hI⟩ := a.rep.all .ins trivial
    have hW := a.rep.all .W trivial
    have hWr := a.rep.all (.Wr one) h1
    obtain ⟨q, eq1, hq⟩ := a.rep.all (.Wq one gate) ⟨h1, h2⟩
    obtain ⟨rs, vs, er, hRr, pr⟩ := a.rep.all (.Rr one) h1
    -- the mirror
    unfold put at hput
    rw [eq1, er] at hput
    dsimp only at hput
    by_cases hc : q.length < cap ∧ rs.length < cap
    case neg => rw [if_neg hc] at hput; cases hput
    rw [if_pos hc] at hput
    -- the test
    refine ⟨_, rfl, _, _, rfl, rfl, _, rfl, ?_⟩
    have d1 : decide ((0 : Int) ≤ (one : Int)) = true := decide_eq_true (by omega)
    have d2 : decide ((one : Int) < (m : Int)) = true := decide_eq_true (by omega)
    have d3 : decide ((0 : Int) ≤ (gate : Int)) = true := decide_eq_true (by omega)
    have d4 : decide ((gate : Int) < (m : Int)) = true := decide_eq_true (by omega)
    rw [d1]
    refine iteT ⟨_, rfl, _, C, dx, _, _, rfl, hI, T.cl, T.nMany, fS_many _ _ _ _ _, _, _, rfl, rfl, _, rfl, ?_⟩
    rw [d2]
    refine iteF ⟨_, rfl, _, _, rfl, rfl, _, rfl, ?_⟩
    rw [d3]
    refine iteT ⟨_, rfl, _, C, dx, _, _, rfl, hI, T.cl, T.nMany, fS_many _ _ _ _ _, _, _, rfl, rfl, _, rfl, ?_⟩
    rw [d4]
    refine iteF ?_
    -- queue = self.waiting[one][gate]; queue.append(cell)
    refine ⟨_, rfl, _, C, dx, _, _, rfl, hI, T.cl, T.nWait, fS_waiting _ _ _ _ _, _, rfl, _, _, _, _, rfl, rfl, SqL.of hW, atI_nat (refs_at h1), _, rfl, _, _, _, _, rfl, rfl, SqL.of hWr, atI_nat (refs_at h2), ?_⟩
    refine ⟨_, rfl, .inl ⟨rfl, _, SqL.of hq⟩, _, rfl, _, _, _, rfl, rfl, hq, ?_, ?_⟩
    · rw [List.length_map]; exact Nat.lt_of_lt_of_le hc.1 (by decide)
    have eapp : q.map ca ++ [ca c] = (q ++ [c]).map ca := by rw [List.map_append]; rfl
    rw [eapp]
    have a1 := a.setWq h1 h2 (q ++ [c])
    have hq1 : upd H (ad (.Wq one gate)) (.lst ((q ++ [c]).map ca)) (ad (.Wq one gate)) = some (.lst ((q ++ [c]).map ca)) := upd_same
    generalize upd H (ad (.Wq one gate)) (.lst ((q ++ [c]).map ca)) = H1 at a1 hq1 ⊢
    obtain ⟨dx1, hI1⟩ := a1.rep.all .ins trivial
    refine ⟨_, rfl, _, _, rfl, .inl (SqL.of hq1), _, rfl, _, C, dx1, _, _, rfl, hI1, T.cl, T.nMany, fS_many _ _ _ _ _, rfl, _, rfl, ?_⟩
    by_cases hm : q.length + 1 = m
    · rw [if_pos hm] at hput
      have es : { st with rows := st.rows.set one (rs ++ [(gate, q ++ [c])]), wait := set2 st.wait one gate [] } = s' := Option.some.inj hput
      have ed : decide (V.int (((q ++ [c]).map ca).length : Int) = V.int (m : Int)) = true := by
        refine decide_eq_true ?_
        rw [List.length_map, List.length_append, List.length_singleton, hm]
      rw [ed]
      refine iteT ?_
      have hR1 := a1.rep.all .R trivial
      obtain ⟨rs1, vs1, er1, hRr1, pr1⟩ := a1.rep.all (.Rr one) h1
      have ers : rs1 = rs := Option.some.inj (er1.symm.trans er)
      subst ers
      refine ⟨_, rfl, _, C, dx1, _, _, rfl, hI1, T.cl, T.nRows, fS_rows _ _ _ _ _, _, rfl, _, _, _, _, rfl, rfl, SqL.of hR1, atI_nat (refs_at h1), .inl ⟨rfl, _, SqL.of hRr1⟩, _, rfl, _, rfl, _, _, rfl, .inl ⟨SqL.of hq1, fun u nu => ?_⟩⟩
      refine ⟨(by show (2 : Nat) ≤ sizeLine; decide), fun t nt => ?_⟩
      have s2 : Same H1 (upd (upd H1 u (.tup ((q ++ [c]).map ca))) t (.tup [.int gate, .ref u])) := (same_new nu).trans (same_new nt)
      have ntu : u ≠ t := ne_of_none upd_same nt
      have hrow : RowV ca (upd (upd H1 u (.tup ((q ++ [c]).map ca))) t (.tup [.int gate, .ref u])) (.ref t) (gate, q ++ [c]) :=
        ⟨.ref u, ⟨t, rfl, upd_same⟩, ⟨u, rfl, by rw [upd_ne ntu, upd_same]⟩⟩
      generalize upd (upd H1 u (.tup ((q ++ [c]).map ca))) t (.tup [.int gate, .ref u]) = H2 at s2 hrow ⊢
      have a2 := a1.mono s2
      have pr2 : Paired (RowV ca H2) (vs1 ++ [.ref t]) (rs1 ++ [(gate, q ++ [c])]) := pair_app (pair_mono pr1 fun _ _ z => z.mono (Tups.same s2)) hrow
      have a3 := a2.setRr h1 pr2
      refine ⟨_, _, _, rfl, rfl, s2 _ _ hRr1, ?_, ?_⟩
      · rw [pair_len pr1]; exact Nat.lt_of_lt_of_le hc.2 (by decide)
      generalize upd H2 (ad (.Rr one)) (.lst (vs1 ++ [.ref t])) = H3 at a3 ⊢
      refine ⟨Nat.zero_le _, fun p np => ?_⟩
      have a4 := a3.newWq (i := one) (j := gate) h1 h2 np (q' := [])
      have sp : Same H3 (upd H3 p (.lst [])) := same_new np
      obtain ⟨dx3, hI3⟩ := a3.rep.all .ins trivial
      have hW3 := a3.rep.all .W trivial
      have hWr3 := a3.rep.all (.Wr one) h1
      refine ⟨_, rfl, _, C, dx3, _, _, rfl, sp _ _ hI3, T.cl, T.nWait, fS_waiting _ _ _ _ _, _, rfl, _, _, _, _, rfl, rfl, SqL.of (sp _ _ hW3), atI_nat (refs_at h1), _, rfl, _, _, _, gate, rfl, rfl, sp _ _ hWr3, ?_, ?_⟩
      · unfold ixN
        rw [if_pos (by omega), refs_len, if_pos (by omega)]; simp
      · refine k _ (adNew ad one gate p) ?_ (if_neg (by intro z; cases z))
        rw [← es]
        have e2 : set2 (set2 st.wait one gate (q ++ [c])) one gate [] = set2 st.wait one gate [] := set2_set2 _ _ _ _ _
        have a5 := a4
        dsimp only at a5
        rw [e2] at a5
        exact a5
    · rw [if_neg hm] at hput
      have es : { st with wait := set2 st.wait one gate (q ++ [c]) } = s' := Option.some.inj hput
      have ed : decide (V.int (((q ++ [c]).map ca).length : Int) = V.int (m : Int)) = false := by
        refine decide_eq_false fun z => hm ?_
        injection z with z
        rw [List.length_map, List.length_append, List.length_singleton] at z
        omega
      rw [ed]
      refine iteF ?_
      refine k H1 ad ?_ rfl
      rw [← es]; exact a1
end
end K44

set_option Elab.async false
set_option maxRecDepth 100000
set_option pp.maxSteps 600
namespace K44
open PySem L2
theorem At.other {C : Addr} {m : Nat} {ca : Nat → V} {ad : Ky → Addr} {s : S} {H0 H : Hp} (a : At C m ca ad s H0 H) {b : Addr} {ys : List V} {o : HO} (h : H b = some (.lst ys)) (ne : ∀ k, k.ok m → ad k ≠ b) (h0 : H0 b = none) :
    At C m ca ad s H0 (upd H b o) :=
  ⟨⟨a.rep.inj, fun k hk => (a.rep.all k hk).keep (upd_ne (ne k hk)) (Tups.lst h)⟩, fun c u e => by
    rw [upd_ne (fun z => by rw [z, h0] at e; cases e)]
    exact a.same c u e, a.out⟩
theorem cut_tail (x : V) (r : List V) : cutV (x :: r) (some 1) none = r := by
  unfold cutV
  rw [show HT.sIx (x :: r).length 0 (some 1) = min 1 (x :: r).length from HT.sIx_nat _ _ 1, HT.sIx_none]
  have e : min 1 (x :: r).length = 1 := by simp
  rw [e]
  show (r.take ((x :: r).length - 1)) = r
  exact List.take_of_length_le (by simp)
theorem cut_part (x : V) (r : List V) : ¬ (HT.sIx (x :: r).length 0 (some 1) = 0 ∧ HT.sIx (x :: r).length (x :: r).length none = (x :: r).length) := by
  rw [show HT.sIx (x :: r).length 0 (some 1) = min 1 (x :: r).length from HT.sIx_nat _ _ 1]
  have e : min 1 (x :: r).length = 1 := by simp
  rw [e]
  exact fun z => by cases z.1
section
variable {P : Program} {w : World} {K : PySem.W.Frag} {mg : Str → Option Value} {base : Heap}
def spTurn (C : Addr) : Sp := fun vs H Q _ => ∃ (m : Nat) (ca : Nat → V) (ad : Ky → Addr) (s : S) (H0 : Hp) (s' : S) (out : List (Nat × Nat × Nat)), vs = [.ref (ad .ins)] ∧
  0 < m ∧ m ≤ 1000 ∧ At C m ca ad s H0 H ∧ turn m s = some (s', out) ∧ ∀ (H' : Hp) (p : Addr) (xs : List V), At C m ca ad s' H0 H' → H' p = some (.tup xs) → Paired (OutV ca H') xs out → Q (.ref p) H'
theorem scTurn : FnScope ["self", "one", "place", "gate", "cells", "found", "cell"] ["self"] (defScope sTurn) := ⟨rfl, rfl, rfl, by decide +kernel, rfl, by decide +kernel, by decide +kernel⟩
theorem no_joined : ∀ (m : Nat) (w r d : Addr) (s : Nat), (fS m w r d s).lookup ("joined" : Str) = none := fun m w r d s => fS_no m w r d s (by decide +kernel) (by decide +kernel) (by decide +kernel) (by decide +kernel) (by decide +kernel)
theorem no_outof : ∀ (m : Nat) (w r d : Addr) (s : Nat), (fS m w r d s).lookup ("out_of" : Str) = none := fun m w r d s => fS_no m w r d s (by decide +kernel) (by decide +kernel) (by decide +kernel) (by decide +kernel) (by decide +kernel)
theorem ok_turn {f C I fJ fO : Addr} {fd fdJ fdO : FuncData} (F : Fun K "turn" "Spread.turn" sTurn f fd) (T : Txt K mg C I) (FJ : Fun K "joined" "Spread.joined" sJoined fJ fdJ) (bJ : Binds K fdJ ["self", "one"] []) (mJ : Meth K C "joined" fJ)
    (FO : Fun K "out_of" "Spread.out_of" sOutOf fO fdO) (bO : Binds K fdO ["self", "place"] []) (mO : Meth K C "out_of" fO) : FnOk P w K mg base CX0 2 f fd ["self"] (spTurn C) := by
  have GJ : FnOk P w K mg base CX0 1 fJ fdJ ["self", "one"] (spJoined C) := ok_joined FJ T
  have GO : FnOk P w K mg base CX0 1 fO fdO ["self", "place"] (spOutOf C) := ok_outof FO T
  refine F.ok scTurn (fun vs H Q E h => ?_) (fun cdv A outer s H vs Q E hr h => ?_)
  · obtain ⟨m, ca, ad, s, H0, s', out, rfl, _⟩ := h
    rfl
  · obtain ⟨m, ca, ad, st, H0, s', out, rfl, hm, hm2, a, ht, k⟩ := h
    refine ⟨_, pss_cons (ps_for PassesOwn.never rfl (pi_range1 rfl T.range (pa_cons (pe_fld (pv 0) rfl) pa_nil)) (pg_name (i := 1) scTurn.nd rfl (Or.inl rfl))
        (pss_cons (ps_set (i := 2) scTurn.nd rfl (Or.inl rfl) (pe_meth (pv 0) T.cl mJ GJ hr bJ .nil pass0 (pa_cons (pv 1) pa_nil)))
        (pss_one (ps_if (pt_cmpR (op_neNil hr.units0) (pe_ix ix_list (pe_fld (pv 0) rfl) (pv 1) (fun _ _ => rfl)) (pe_lst pa_nil) (nomark _))
          (pss_cons (ps_asg (pe_ix ix_list (pe_ix ix_list (pe_fld (pv 0) rfl) (pv 1) (fun _ _ => rfl)) pe_int (fun _ _ => rfl)) (pg_tup rfl (pgs_cons (pg_name (i := 3) scTurn.nd rfl (Or.inl rfl)) (pgs_cons (pg_name (i := 4) scTurn.nd rfl (Or.inl rfl)) pgs_nil))))
          (pss_one (ps_if (PW.pt (pw_or (pt_cmpR op_eq (pv 2) pe_int (nomark _)) (pw_or1 (pt_cmpR op_lt (pe_callB call_len_seq (by rfl) T.len PySem.boot_len (pa_cons (pv 4) pa_nil)) (pe_fld (pv 0) rfl) (nomark _)))))
            (pss_cons (ps_expr (pe_bm PySem.F.plainAttrs_list PySem.F.slot_list_append PySem.F.type_list_append mt_append (pe_ix ix_list (pe_ix ix_list (pe_fld (pv 0) rfl) (pv 2) (fun _ _ => rfl)) (pv 3) (fun _ _ => rfl))
                (pa_cons (pe_tup (pa_cons (pv 1) (pa_cons (pe_ix ix_tup (pv 4) pe_int (fun _ _ => rfl)) pa_nil))) pa_nil)))
            (pss_cons (ps_asg (pe_tup (pa_cons (pv 3) (pa_cons (pe_slice sl_tup (pv 4) (po_some pe_int) po_none) pa_nil))) (pg_sub (pe_ix ix_list (pe_fld (pv 0) rfl) (pv 1) (fun _ _ => rfl)) pe_int set_list))
            (pss_one (ps_if (pt_cmpR op_eq (pe_callB call_len_seq (by rfl) T.len PySem.boot_len (pa_cons (pv 4) pa_nil)) pe_int (nomark _))
              (pss_one (ps_expr (pe_bm PySem.F.plainAttrs_list PySem.F.slot_list_pop PySem.F.type_list_pop mt_popAt (pe_ix ix_list (pe_fld (pv 0) rfl) (pv 1) (fun _ _ => rfl)) (pa_cons pe_int pa_nil)))) pss_nil)))) pss_nil))) pss_nil))))
      (pss_cons (ps_set (i := 5) scTurn.nd rfl (Or.inl rfl) (pe_lst pa_nil))
      (pss_cons (ps_for PassesOwn.never rfl (pi_range1 rfl T.range (pa_cons (pe_fld (pv 0) rfl) pa_nil)) (pg_name (i := 2) scTurn.nd rfl (Or.inl rfl))
        (pss_cons (ps_set (i := 3) scTurn.nd rfl (Or.inl rfl) (pe_meth (pv 0) T.cl mO GO hr bO .nil pass0 (pa_cons (pv 2) pa_nil)))
        (pss_one (ps_if (pt_cmpR (op_neNil hr.units0) (pe_ix ix_list (pe_ix ix_list (pe_fld (pv 0) rfl) (pv 2) (fun _ _ => rfl)) (pv 3) (fun _ _ => rfl)) (pe_lst pa_nil) (nomark _))
          (pss_cons (ps_asg (pe_bm PySem.F.plainAttrs_list PySem.F.slot_list_pop PySem.F.type_list_pop mt_popAt (pe_ix ix_list (pe_ix ix_list (pe_fld (pv 0) rfl) (pv 2) (fun _ _ => rfl)) (pv 3) (fun _ _ => rfl)) (pa_cons pe_int pa_nil))
              (pg_tup rfl (pgs_cons (pg_name (i := 1) scTurn.nd rfl (Or.inl rfl)) (pgs_cons (pg_name (i := 6) scTurn.nd rfl (Or.inl rfl)) pgs_nil))))
          (pss_one (ps_expr (pe_bm PySem.F.plainAttrs_list PySem.F.slot_list_append PySem.F.type_list_append mt_append (pv 5) (pa_cons (pe_tup (pa_cons (pv 1) (pa_cons (pv 3) (pa_cons (pv 6) pa_nil)))) pa_nil))))) pss_nil))))
      (pss_cons (ps_fldaug (pv 0) pe_int in_add)
      (pss_one (ps_ret (pe_callTy call_tuple_of (by rfl) T.tuple (by decide +kernel) (pa_cons (pv 5) pa_nil))))))), ?_⟩
    -- the mirror, in its two loops
    unfold turn at ht
    cases eA : iter (stepA m) m st with
    | none => rw [eA] at ht; cases ht
    | some sA =>
    rw [eA] at ht
    dsimp only at ht
    cases eB : iter (stepB m) m (sA, []) with
    | none => rw [eB] at ht; cases ht
    | some pB =>
    rw [eB] at ht
    obtain ⟨sB, outB⟩ := pB
    dsimp only at ht
    have ht' := Option.some.inj ht
    obtain ⟨dx, hI⟩ := a.rep.all .ins trivial
    refine ⟨_, rfl, _, C, dx, _, _, rfl, hI, T.cl, T.nMany, fS_many _ _ _ _ _, (m : Int), rfl, by omega, by omega, ?_⟩
    rw [Int.toNat_natCast]
    refine for_range (lo := 0) (n := m) (fun i σ H' => ∃ (si : S) (v1 v2 v3 v4 v6 : Option V), σ = [some (.ref (ad .ins)), v1, v2, v3, v4, none, v6] ∧ iter (stepA m) i st = some si ∧ At C m ca ad si H0 H')
      ⟨st, none, none, none, none, none, rfl, rfl, a⟩ ?_ ?_
    · rintro i σ H' hi ⟨si, v1, v2, v3, v4, v6, rfl, hit, a⟩
      rw [Int.zero_add]
      obtain ⟨t, u, f1, f2, f3⟩ := iter_at eA i hi
      have et : t = si := Option.some.inj (f1.symm.trans hit)
      subst et
      obtain ⟨dx, hI⟩ := a.rep.all .ins trivial
      have hR := a.rep.all .R trivial
      obtain ⟨rs, vs, er, hRr, pr⟩ := a.rep.all (.Rr i) hi
      refine ⟨_, rfl, _, dx, _, rfl, hI, no_joined _ _ _ _ _, _, rfl, _, dx, _, _, _, m, _, i, rfl, hI, hm, ?_⟩
      refine ⟨_, rfl, _, C, dx, _, _, rfl, hI, T.cl, T.nRows, fS_rows _ _ _ _ _, _, rfl, _, _, _, _, rfl, rfl, SqL.of hR, atI_nat (refs_at hi), Nat.zero_le _, fun q nq => ?_⟩
      have sq : Same H' (upd H' q (.lst [])) := same_new nq
      refine ⟨_, q, _, rfl, rfl, SqL.of (sq _ _ hRr), SqL.of upd_same, _, rfl, ?_⟩
      have aq := a.mono sq
      have hRr := sq _ _ hRr
      have hR := sq _ _ hR
      have hI := sq _ _ hI
      generalize upd H' q (.lst []) = H1 at sq aq hRr hR hI ⊢
      unfold stepA at f2
      rw [er] at f2
      cases pr with
      | nil =>
        have f2' : some t = some u := f2
        obtain rfl : t = u := Option.some.inj f2'
        exact iteF ⟨t, _, _, _, _, _, rfl, f3, aq⟩
      | @cons v0 r0 vr rr hrow pr =>
        obtain ⟨gate, cells⟩ := r0
        dsimp only at f2
        refine iteT ?_
        have aq := aq
        obtain ⟨cv, ⟨tt, e1, htt⟩, ⟨uu, e2, huu⟩⟩ := hrow
        subst e1
        subst e2
        have htt := sq _ _ htt
        have huu := sq _ _ huu
        dsimp only at htt huu
        refine ⟨_, rfl, _, C, dx, _, _, rfl, hI, T.cl, T.nRows, fS_rows _ _ _ _ _, _, rfl, _, _, _, _, rfl, rfl, SqL.of hR, atI_nat (refs_at hi), _, _, _, _, rfl, rfl, SqL.of hRr, atI_nat (j := 0) rfl, ?_⟩
        refine ⟨tt, _, rfl, SqT.of htt, rfl, _, _, rfl, _, _, rfl, rfl, ?_⟩
        refine ⟨_, rfl, rfl, _, rfl, ?_⟩
        have dpl : decide (V.int (((i + t.slot) % m : Nat) : Int) = V.int 0) = decide ((i + t.slot) % m = 0) := by
          by_cases z : (i + t.slot) % m = 0
          · rw [decide_eq_true z, z]; rfl
          · rw [decide_eq_false z]
            exact decide_eq_false fun y => z (by injection y with y; omega)
        rw [dpl]
        have hpl : (i + t.slot) % m < m := Nat.mod_lt _ hm
        by_cases hc : (i + t.slot) % m = 0 ∨ cells.length < m
        case neg =>
          rw [if_neg hc] at f2
          obtain rfl : t = u := Option.some.inj f2
          rw [decide_eq_false fun z => hc (.inl z)]
          refine iteF ⟨_, rfl, _, _, rfl, .inr (SqT.of huu), _, rfl, _, C, dx, _, _, rfl, hI, T.cl, T.nMany, fS_many _ _ _ _ _, _, _, rfl, rfl, _, rfl, ?_⟩
          rw [decide_eq_false (by rw [List.length_map]; omega)]
          exact iteF ⟨t, _, _, _, _, _, rfl, f3, aq⟩
        rw [if_pos hc] at f2
        cases cells with
        | nil => cases f2
        | cons c cs =>
        cases eq2 : get2 t.mid ((i + t.slot) % m) gate with
        | none => rw [eq2] at f2; cases f2
        | some mq =>
        rw [eq2] at f2
        dsimp only at f2
        by_cases hcap : mq.length < cap ∧ gate < m
        case neg => rw [if_neg hcap] at f2; cases f2
        rw [if_pos hcap] at f2
        have f2 := Option.some.inj f2
        obtain ⟨mq', mvs, g1, hMq, pm⟩ := aq.rep.all (.Mq ((i + t.slot) % m) gate) ⟨hpl, hcap.2⟩
        obtain rfl : mq' = mq := Option.some.inj (g1.symm.trans eq2)
        have hM := aq.rep.all .M trivial
        have hMr := aq.rep.all (.Mr ((i + t.slot) % m)) hpl
        refine ite2 (fun _ => iteT ?b1) (fun hn => ⟨_, rfl, _, _, rfl, .inr (SqT.of huu), _, rfl, _, C, dx, _, _, rfl, hI, T.cl, T.nMany, fS_many _ _ _ _ _, _, _, rfl, rfl, _, rfl, ?b2⟩)
        case b2 =>
          rw [decide_eq_true (by rw [List.length_map]; rcases hc with z | z; exact absurd (decide_eq_true z) hn; exact Int.ofNat_lt.mpr z)]
          refine iteT ?_
          -- self.middle[place][gate].append((one, cells[0]))
          refine ⟨_, rfl, _, C, dx, _, _, rfl, hI, T.cl, T.nMid, fS_middle _ _ _ _ _, _, rfl, _, _, _, _, rfl, rfl, SqL.of hM, atI_nat (refs_at hpl), _, rfl, _, _, _, _, rfl, rfl, SqL.of hMr, atI_nat (refs_at hcap.2), .inl ⟨rfl, _, SqL.of hMq⟩, ?_⟩
          refine ⟨_, rfl, _, rfl, _, _, _, _, rfl, rfl, SqT.of huu, atI_nat (j := 0) rfl, (by show (2 : Nat) ≤ sizeLine; decide), fun t2 nt2 => ?_⟩
          have s2 : Same H1 (upd H1 t2 (.tup [.int i, ca c])) := same_new nt2
          have hmid : MidV ca (upd H1 t2 (.tup [.int i, ca c])) (.ref t2) (i, c) := ⟨t2, rfl, upd_same⟩
          refine ⟨_, _, _, rfl, rfl, s2 _ _ hMq, ?_, ?_⟩
          · rw [pair_len pm]; exact Nat.lt_of_lt_of_le hcap.1 (by decide)
          have a2 := aq.mono s2
          have a3 := a2.setMq hpl hcap.2 (pair_app (pair_mono pm fun _ _ z => TupV.mono (Tups.same s2) z) hmid)
          have s3 : Tups (upd H1 t2 (.tup [.int i, ca c])) (upd (upd H1 t2 (.tup [.int i, ca c])) (ad (.Mq ((i + t.slot) % m) gate)) (.lst (mvs ++ [.ref t2]))) := Tups.lst (s2 _ _ hMq)
          have huu3 := s3 _ _ (s2 _ _ huu)
          have pr3 := pair_mono pr fun _ _ z => RowV.mono s3 (RowV.mono (Tups.same s2) (RowV.mono (Tups.same sq) z))
          have n0 : ad .ins ≠ ad (.Mq ((i + t.slot) % m) gate) := aq.ne trivial ⟨hpl, hcap.2⟩ (by intro z; cases z)
          have nR : ad .R ≠ ad (.Mq ((i + t.slot) % m) gate) := aq.ne trivial ⟨hpl, hcap.2⟩ (by intro z; cases z)
          have nRr : ad (.Rr i) ≠ ad (.Mq ((i + t.slot) % m) gate) := aq.ne hi ⟨hpl, hcap.2⟩ (by intro z; cases z)
          have hI3 := (upd_ne (H := upd H1 t2 (.tup [.int i, ca c])) (o := .lst (mvs ++ [.ref t2])) n0).trans (s2 _ _ hI)
          have hR3 := (upd_ne (H := upd H1 t2 (.tup [.int i, ca c])) (o := .lst (mvs ++ [.ref t2])) nR).trans (s2 _ _ hR)
          have hRr3 := (upd_ne (H := upd H1 t2 (.tup [.int i, ca c])) (o := .lst (mvs ++ [.ref t2])) nRr).trans (s2 _ _ hRr)
          generalize upd (upd H1 t2 (.tup [.int i, ca c])) (ad (.Mq ((i + t.slot) % m) gate)) (.lst (mvs ++ [.ref t2])) = H3 at a3 huu3 pr3 hI3 hR3 hRr3 ⊢
          -- self.rows[one][0] = (gate, cells[1:])
          refine ⟨_, rfl, _, rfl, _, rfl, _, _, rfl, SqT.of huu3, cut_part _ _, fun u4 nu4 => ?_⟩
          have ecut : cutV ((c :: cs).map ca) (some 1) none = cs.map ca := cut_tail _ _
          rw [ecut]
          refine ⟨(by show (2 : Nat) ≤ sizeLine; decide), fun t4 nt4 => ?_⟩
          have s4 : Same H3 (upd (upd H3 u4 (.tup (cs.map ca))) t4 (.tup [.int gate, .ref u4])) := (same_new nu4).trans (same_new nt4)
          have ntu : u4 ≠ t4 := ne_of_none upd_same nt4
          have hrow : RowV ca (upd (upd H3 u4 (.tup (cs.map ca))) t4 (.tup [.int gate, .ref u4])) (.ref t4) (gate, cs) := ⟨.ref u4, ⟨t4, rfl, upd_same⟩, ⟨u4, rfl, by rw [upd_ne ntu, upd_same]⟩⟩
          generalize upd (upd H3 u4 (.tup (cs.map ca))) t4 (.tup [.int gate, .ref u4]) = H4 at s4 hrow ⊢
          have a4 := a3.mono s4
          have pr4 := pair_mono pr3 fun _ _ z => RowV.mono (Tups.same s4) z
          refine ⟨_, rfl, _, C, dx, _, _, rfl, s4 _ _ hI3, T.cl, T.nRows, fS_rows _ _ _ _ _, _, rfl, _, _, _, _, rfl, rfl, SqL.of (s4 _ _ hR3), atI_nat (refs_at hi), _, _, _, 0, rfl, rfl, s4 _ _ hRr3, ?_, ?_⟩
          · unfold ixN
            rw [if_pos (by omega), if_pos (by simp)]; rfl
          rw [List.set_cons_zero]
          have a5 := a4.setRr hi (Paired.cons hrow pr4)
          have s5 : Tups H4 (upd H4 (ad (.Rr i)) (.lst (.ref t4 :: vr))) := Tups.lst (s4 _ _ hRr3)
          have huu5 := s5 _ _ (s4 _ _ huu3)
          have pr5 := pair_mono pr4 fun _ _ z => RowV.mono s5 z
          have hrow5 := RowV.mono s5 hrow
          have hRr5 : upd H4 (ad (.Rr i)) (.lst (.ref t4 :: vr)) (ad (.Rr i)) = some (.lst (.ref t4 :: vr)) := upd_same
          generalize upd H4 (ad (.Rr i)) (.lst (.ref t4 :: vr)) = H5 at a5 s5 huu5 pr5 hrow5 hRr5 ⊢
          obtain ⟨dx5, hI5⟩ := a5.rep.all .ins trivial
          have hR5 := a5.rep.all .R trivial
          refine ⟨_, rfl, _, _, rfl, .inr (SqT.of huu5), rfl, _, rfl, ?_⟩
          cases cs with
          | nil =>
            refine iteT ?_
            refine ⟨_, rfl, _, C, dx5, _, _, rfl, hI5, T.cl, T.nRows, fS_rows _ _ _ _ _, _, rfl, _, _, _, _, rfl, rfl, SqL.of hR5, atI_nat (refs_at hi), .inl ⟨rfl, _, SqL.of hRr5⟩, _, _, _, 0, _, rfl, rfl, hRr5, by decide, by decide, seqIndex_of (by decide) (by simp), rfl, ?_⟩
            have a6 := a5.setRr hi pr5
            refine ⟨u, _, _, _, _, _, rfl, f3, ?_⟩
            rw [← f2, if_pos rfl]
            dsimp only at a6
            rw [List.set_set] at a6
            exact a6
          | cons c2 cs2 =>
            rw [decide_eq_false (by intro z; injection z with z; simp at z; omega)]
            refine iteF ?_
            refine ⟨u, _, _, _, _, _, rfl, f3, ?_⟩
            rw [← f2, if_neg (by intro z; cases z)]
            exact a5
        case b1 =>
          -- self.middle[place][gate].append((one, cells[0]))
          refine ⟨_, rfl, _, C, dx, _, _, rfl, hI, T.cl, T.nMid, fS_middle _ _ _ _ _, _, rfl, _, _, _, _, rfl, rfl, SqL.of hM, atI_nat (refs_at hpl), _, rfl, _, _, _, _, rfl, rfl, SqL.of hMr, atI_nat (refs_at hcap.2), .inl ⟨rfl, _, SqL.of hMq⟩, ?_⟩
          refine ⟨_, rfl, _, rfl, _, _, _, _, rfl, rfl, SqT.of huu, atI_nat (j := 0) rfl, (by show (2 : Nat) ≤ sizeLine; decide), fun t2 nt2 => ?_⟩
          have s2 : Same H1 (upd H1 t2 (.tup [.int i, ca c])) := same_new nt2
          have hmid : MidV ca (upd H1 t2 (.tup [.int i, ca c])) (.ref t2) (i, c) := ⟨t2, rfl, upd_same⟩
          refine ⟨_, _, _, rfl, rfl, s2 _ _ hMq, ?_, ?_⟩
          · rw [pair_len pm]; exact Nat.lt_of_lt_of_le hcap.1 (by decide)
          have a2 := aq.mono s2
          have a3 := a2.setMq hpl hcap.2 (pair_app (pair_mono pm fun _ _ z => TupV.mono (Tups.same s2) z) hmid)
          have s3 : Tups (upd H1 t2 (.tup [.int i, ca c])) (upd (upd H1 t2 (.tup [.int i, ca c])) (ad (.Mq ((i + t.slot) % m) gate)) (.lst (mvs ++ [.ref t2]))) := Tups.lst (s2 _ _ hMq)
          have huu3 := s3 _ _ (s2 _ _ huu)
          have pr3 := pair_mono pr fun _ _ z => RowV.mono s3 (RowV.mono (Tups.same s2) (RowV.mono (Tups.same sq) z))
          have n0 : ad .ins ≠ ad (.Mq ((i + t.slot) % m) gate) := aq.ne trivial ⟨hpl, hcap.2⟩ (by intro z; cases z)
          have nR : ad .R ≠ ad (.Mq ((i + t.slot) % m) gate) := aq.ne trivial ⟨hpl, hcap.2⟩ (by intro z; cases z)
          have nRr : ad (.Rr i) ≠ ad (.Mq ((i + t.slot) % m) gate) := aq.ne hi ⟨hpl, hcap.2⟩ (by intro z; cases z)
          have hI3 := (upd_ne (H := upd H1 t2 (.tup [.int i, ca c])) (o := .lst (mvs ++ [.ref t2])) n0).trans (s2 _ _ hI)
          have hR3 := (upd_ne (H := upd H1 t2 (.tup [.int i, ca c])) (o := .lst (mvs ++ [.ref t2])) nR).trans (s2 _ _ hR)
          have hRr3 := (upd_ne (H := upd H1 t2 (.tup [.int i, ca c])) (o := .lst (mvs ++ [.ref t2])) nRr).trans (s2 _ _ hRr)
          generalize upd (upd H1 t2 (.tup [.int i, ca c])) (ad (.Mq ((i + t.slot) % m) gate)) (.lst (mvs ++ [.ref t2])) = H3 at a3 huu3 pr3 hI3 hR3 hRr3 ⊢
          -- self.rows[one][0] = (gate, cells[1:])
          refine ⟨_, rfl, _, rfl, _, rfl, _, _, rfl, SqT.of huu3, cut_part _ _, fun u4 nu4 => ?_⟩
          have ecut : cutV ((c :: cs).map ca) (some 1) none = cs.map ca := cut_tail _ _
          rw [ecut]
          refine ⟨(by show (2 : Nat) ≤ sizeLine; decide), fun t4 nt4 => ?_⟩
          have s4 : Same H3 (upd (upd H3 u4 (.tup (cs.map ca))) t4 (.tup [.int gate, .ref u4])) := (same_new nu4).trans (same_new nt4)
          have ntu : u4 ≠ t4 := ne_of_none upd_same nt4
          have hrow : RowV ca (upd (upd H3 u4 (.tup (cs.map ca))) t4 (.tup [.int gate, .ref u4])) (.ref t4) (gate, cs) := ⟨.ref u4, ⟨t4, rfl, upd_same⟩, ⟨u4, rfl, by rw [upd_ne ntu, upd_same]⟩⟩
          generalize upd (upd H3 u4 (.tup (cs.map ca))) t4 (.tup [.int gate, .ref u4]) = H4 at s4 hrow ⊢
          have a4 := a3.mono s4
          have pr4 := pair_mono pr3 fun _ _ z => RowV.mono (Tups.same s4) z
          refine ⟨_, rfl, _, C, dx, _, _, rfl, s4 _ _ hI3, T.cl, T.nRows, fS_rows _ _ _ _ _, _, rfl, _, _, _, _, rfl, rfl, SqL.of (s4 _ _ hR3), atI_nat (refs_at hi), _, _, _, 0, rfl, rfl, s4 _ _ hRr3, ?_, ?_⟩
          · unfold ixN
            rw [if_pos (by omega), if_pos (by simp)]; rfl
          rw [List.set_cons_zero]
          have a5 := a4.setRr hi (Paired.cons hrow pr4)
          have s5 : Tups H4 (upd H4 (ad (.Rr i)) (.lst (.ref t4 :: vr))) := Tups.lst (s4 _ _ hRr3)
          have huu5 := s5 _ _ (s4 _ _ huu3)
          have pr5 := pair_mono pr4 fun _ _ z => RowV.mono s5 z
          have hrow5 := RowV.mono s5 hrow
          have hRr5 : upd H4 (ad (.Rr i)) (.lst (.ref t4 :: vr)) (ad (.Rr i)) = some (.lst (.ref t4 :: vr)) := upd_same
          generalize upd H4 (ad (.Rr i)) (.lst (.ref t4 :: vr)) = H5 at a5 s5 huu5 pr5 hrow5 hRr5 ⊢
          obtain ⟨dx5, hI5⟩ := a5.rep.all .ins trivial
          have hR5 := a5.rep.all .R trivial
          refine ⟨_, rfl, _, _, rfl, .inr (SqT.of huu5), rfl, _, rfl, ?_⟩
          cases cs with
          | nil =>
            refine iteT ?_
            refine ⟨_, rfl, _, C, dx5, _, _, rfl, hI5, T.cl, T.nRows, fS_rows _ _ _ _ _, _, rfl, _, _, _, _, rfl, rfl, SqL.of hR5, atI_nat (refs_at hi), .inl ⟨rfl, _, SqL.of hRr5⟩, _, _, _, 0, _, rfl, rfl, hRr5, by decide, by decide, seqIndex_of (by decide) (by simp), rfl, ?_⟩
            have a6 := a5.setRr hi pr5
            refine ⟨u, _, _, _, _, _, rfl, f3, ?_⟩
            rw [← f2, if_pos rfl]
            dsimp only at a6
            rw [List.set_set] at a6
            exact a6
          | cons c2 cs2 =>
            rw [decide_eq_false (by intro z; injection z with z; simp at z; omega)]
            refine iteF ?_
            refine ⟨u, _, _, _, _, _, rfl, f3, ?_⟩
            rw [← f2, if_neg (by intro z; cases z)]
            exact a5
    · rintro σ H' ⟨si, v1, v2, v3, v4, v6, rfl, hit, a⟩
      obtain rfl : sA = si := Option.some.inj (eA.symm.trans hit)
      refine ⟨Nat.zero_le _, fun lf nlf => ?_⟩
      have nek : ∀ k : Ky, k.ok m → ad k ≠ lf := fun k hk => a.fresh hk nlf
      have h0lf : H0 lf = none := a.same.free nlf
      have a1 := a.mono (same_new (o := .lst []) nlf)
      have hlf : upd H' lf (.lst []) lf = some (.lst []) := upd_same
      generalize upd H' lf (.lst []) = H1 at a1 hlf ⊢
      obtain ⟨dx, hI⟩ := a1.rep.all .ins trivial
      refine ⟨_, rfl, _, C, dx, _, _, rfl, hI, T.cl, T.nMany, fS_many _ _ _ _ _, (m : Int), rfl, by omega, by omega, ?_⟩
      rw [Int.toNat_natCast]
      refine for_range (lo := 0) (n := m) (fun i σ H' => ∃ (si : S) (out : List (Nat × Nat × Nat)) (xs : List V) (v1 v2 v3 v4 v6 : Option V), σ = [some (.ref (ad .ins)), v1, v2, v3, v4, some (.ref lf), v6] ∧
          iter (stepB m) i (sA, []) = some (si, out) ∧ At C m ca ad si H0 H' ∧ H' lf = some (.lst xs) ∧ Paired (OutV ca H') xs out)
        ⟨sA, [], [], _, _, _, _, _, rfl, rfl, a1, hlf, .nil⟩ ?_ ?_
      · rintro i σ H' hi ⟨t, out, xs, v1, v2, v3, v4, v6, rfl, hit, a, hlf, po⟩
        rw [Int.zero_add]
        obtain ⟨t', u, f1, f2, f3⟩ := iter_at eB i hi
        obtain rfl : (t, out) = t' := Option.some.inj (hit.symm.trans f1)
        obtain ⟨dx, hI⟩ := a.rep.all .ins trivial
        refine ⟨_, rfl, _, dx, _, rfl, hI, no_outof _ _ _ _ _, _, rfl, _, dx, _, _, _, m, _, i, rfl, hI, hm, ?_⟩
        have hgm : gateOf m t.slot i < m := by
          unfold gateOf
          have z1 : (0 : Int) ≤ ((t.slot : Int) - (i : Int)) % (m : Int) := Int.emod_nonneg _ (by omega)
          have z2 : ((t.slot : Int) - (i : Int)) % (m : Int) < (m : Int) := Int.emod_lt_of_pos _ (by omega)
          omega
        have eg : ((t.slot : Int) - (i : Int)) % (m : Int) = ((gateOf m t.slot i : Nat) : Int) := by
          unfold gateOf
          have z1 : (0 : Int) ≤ ((t.slot : Int) - (i : Int)) % (m : Int) := Int.emod_nonneg _ (by omega)
          omega
        rw [eg]
        unfold stepB at f2
        dsimp only at f2
        generalize gateOf m t.slot i = gate at hgm eg f2 ⊢
        have hM := a.rep.all .M trivial
        have hMr := a.rep.all (.Mr i) hi
        obtain ⟨mq, mvs, g1, hMq, pm⟩ := a.rep.all (.Mq i gate) ⟨hi, hgm⟩
        rw [g1] at f2
        refine ⟨_, rfl, _, C, dx, _, _, rfl, hI, T.cl, T.nMid, fS_middle _ _ _ _ _, _, rfl, _, _, _, _, rfl, rfl, SqL.of hM, atI_nat (refs_at hi), _, rfl, _, _, _, _, rfl, rfl, SqL.of hMr, atI_nat (refs_at hgm), Nat.zero_le _, fun q nq => ?_⟩
        have sq : Same H' (upd H' q (.lst [])) := same_new nq
        refine ⟨_, q, _, rfl, rfl, SqL.of (sq _ _ hMq), SqL.of upd_same, _, rfl, ?_⟩
        have aq := a.mono sq
        have hMq := sq _ _ hMq
        have hMr := sq _ _ hMr
        have hM := sq _ _ hM
        have hI := sq _ _ hI
        have hlf := sq _ _ hlf
        have po := pair_mono po fun _ _ z => TupV.mono (Tups.same sq) z
        have pm := pair_mono pm fun _ _ z => TupV.mono (Tups.same sq) z
        generalize upd H' q (.lst []) = H1 at sq aq hMq hMr hM hI hlf po pm ⊢
        cases pm with
        | nil =>
          have f2' : some (t, out) = some u := f2
          obtain rfl : (t, out) = u := Option.some.inj f2'
          exact iteF ⟨t, out, xs, _, _, _, _, _, rfl, f3, aq, hlf, po⟩
        | @cons v0 r0 vr rr hrow pr =>
          obtain ⟨one, c⟩ := r0
          dsimp only at f2
          by_cases hcap : out.length < cap
          case neg => rw [if_neg hcap] at f2; cases f2
          rw [if_pos hcap] at f2
          have f2 := Option.some.inj f2
          obtain ⟨tt, e1, htt⟩ := hrow
          subst e1
          dsimp only at htt
          refine iteT ?_
          refine ⟨_, rfl, _, C, dx, _, _, rfl, hI, T.cl, T.nMid, fS_middle _ _ _ _ _, _, rfl, _, _, _, _, rfl, rfl, SqL.of hM, atI_nat (refs_at hi), _, rfl, _, _, _, _, rfl, rfl, SqL.of hMr, atI_nat (refs_at hgm), .inl ⟨rfl, _, SqL.of hMq⟩,
            _, _, _, 0, _, rfl, rfl, hMq, by decide, by decide, seqIndex_of (by decide) (by simp), rfl, ?_⟩
          show gTup _ _ _ _ _ (upd H1 (ad (.Mq i gate)) (.lst vr)) _
          have a2 := aq.setMq hi hgm pr
          have s2 : Tups H1 (upd H1 (ad (.Mq i gate)) (.lst vr)) := Tups.lst hMq
          have htt := s2 _ _ htt
          have po := pair_mono po fun _ _ z => TupV.mono s2 z
          have hlf := (upd_ne (H := H1) (o := .lst vr) (Ne.symm (nek (.Mq i gate) ⟨hi, hgm⟩))).trans hlf
          generalize upd H1 (ad (.Mq i gate)) (.lst vr) = H2 at a2 s2 htt po hlf ⊢
          refine ⟨tt, _, rfl, SqT.of htt, rfl, _, _, rfl, _, _, rfl, rfl, ?_⟩
          refine ⟨_, rfl, .inl ⟨rfl, _, SqL.of hlf⟩, _, rfl, _, rfl, _, rfl, (by show (3 : Nat) ≤ sizeLine; decide), fun t3 nt3 => ?_⟩
          have s3 : Same H2 (upd H2 t3 (.tup [.int one, .int gate, ca c])) := same_new nt3
          have hout : OutV ca (upd H2 t3 (.tup [.int one, .int gate, ca c])) (.ref t3) (one, gate, c) := ⟨t3, rfl, upd_same⟩
          have a3 := a2.mono s3
          have hlf3 := s3 _ _ hlf
          have po3 := pair_app (pair_mono po fun _ _ z => TupV.mono (Tups.same s3) z) hout
          refine ⟨_, _, _, rfl, rfl, hlf3, ?_, ?_⟩
          · rw [pair_len po]; exact Nat.lt_of_lt_of_le hcap (by decide)
          have a4 := a3.other (o := .lst (xs ++ [.ref t3])) hlf3 nek h0lf
          have s4 : Tups (upd H2 t3 (.tup [.int one, .int gate, ca c])) (upd (upd H2 t3 (.tup [.int one, .int gate, ca c])) lf (.lst (xs ++ [.ref t3]))) := Tups.lst hlf3
          exact ⟨_, _, _, _, _, _, _, _, rfl, f3.trans (congrArg some f2.symm), a4, upd_same, pair_mono po3 fun _ _ z => TupV.mono s4 z⟩
      · rintro σ H' ⟨t, out, xs, v1, v2, v3, v4, v6, rfl, hit, a, hlf, po⟩
        have ep : (sB, outB) = (t, out) := Option.some.inj (eB.symm.trans hit)
        obtain ⟨rfl, rfl⟩ : sB = t ∧ outB = out := ⟨congrArg Prod.fst ep, congrArg Prod.snd ep⟩
        obtain ⟨dx, hI⟩ := a.rep.all .ins trivial
        refine ⟨_, rfl, _, C, dx, _, _, rfl, hI, T.cl, T.nSlot, fS_slot _ _ _ _ _, _, _, rfl, rfl, dx, _, hI, ?_, ?_⟩
        · exact Nat.lt_of_le_of_lt (fS_len _ _ _ _ _) (by decide)
        have e1 : ((sB.slot : Int) + 1) = ((sB.slot + 1 : Nat) : Int) := by norm_cast
        rw [e1, fS_put]
        have a1 := a.setSlot (dx := dx) (sB.slot + 1)
        have hlf1 := (upd_ne (H := H') (o := .ins C dx (fS m (ad .W) (ad .R) (ad .M) (sB.slot + 1))) (Ne.symm (nek .ins trivial))).trans hlf
        have po1 := pair_mono po fun _ _ z => TupV.mono (Tups.ins (o := .ins C dx (fS m (ad .W) (ad .R) (ad .M) (sB.slot + 1))) hI) z
        generalize upd H' (ad .ins) (.ins C dx (fS m (ad .W) (ad .R) (ad .M) (sB.slot + 1))) = H1 at a1 hlf1 po1 ⊢
        refine ⟨_, rfl, _, _, rfl, .inl ⟨SqL.of hlf1, fun p np => ?_⟩⟩
        have s2 : Same H1 (upd H1 p (.tup xs)) := same_new np
        have es := congrArg Prod.fst ht'
        have eo := congrArg Prod.snd ht'
        dsimp only at es eo
        refine k _ p xs ?_ upd_same ?_
        · rw [← es]; exact a1.mono s2
        · rw [← eo]; exact pair_mono po1 fun _ _ z => TupV.mono (Tups.same s2) z
end
end K44

set_option Elab.async false
set_option maxRecDepth 100000
set_option pp.maxSteps 600
set_option linter.all false
namespace K44
open PySem L2
theorem refs_snoc {n : Nat} {f f' : Nat → Addr} {q : Addr} (h : f' n = q) (h' : ∀ i, i < n → f' i = f i) : refs n f ++ [V.ref q] = refs (n + 1) f' := by
  unfold refs
  rw [List.range_succ, List.map_append, List.map_singleton, h]
  congr 1
  exact List.map_congr_left fun i hi => by rw [h' i (List.mem_range.mp hi)]
theorem wipe1 {σ : L2.St} {i : Nat} {v : V} : wipe ((wipe σ [i]).set i (some v)) [i] = wipe σ [i] := by
  show ((σ.set i none).set i (some v)).set i none = σ.set i none
  rw [List.set_set, List.set_set]
theorem wiped_at {σ : L2.St} {i j : Nat} {x : Option (Option V)} {v : V} (h : σ[j]? = x) (ne : i ≠ j) : ((wipe σ [i]).set i (some v))[j]? = x := by
  show ((σ.set i none).set i (some v))[j]? = x
  rw [List.set_set, List.getElem?_set_ne ne]; exact h
/-- n new bare lists in a new list at D -/
structure Bares (n : Nat) (H H' : Hp) (D : Addr) (f : Nat → Addr) : Prop where
  same : Same H H'
  newD : H D = none
  lst : H' D = some (.lst (refs n f))
  new : ∀ j, j < n → H (f j) = none
  at_ : ∀ j, j < n → H' (f j) = some (.lst [])
  ne : ∀ j, j < n → f j ≠ D
  inj : ∀ j k, j < n → k < n → f j = f k → j = k
theorem bares {n i jj : Nat} (hn : n ≤ 1000) {H : Hp} {Q : VK} {σ : L2.St} (hm : σ[jj]? = some (some (.int (n : Int)))) (hi : i ≠ jj)
    (k : ∀ (H' : Hp) (D : Addr) (f : Nat → Addr), Bares n H H' D f → Q (.ref D) H') : tLc (iRng1 (tCons (tVar jj) tNil)) (gName i) tYes (tLst tNil) [i] σ H Q := by
  refine ⟨_, hm, (n : Int), rfl, by omega, by omega, fun D nD => ?_⟩
  rw [Int.toNat_natCast]
  refine lc_range (lo := 0) (n := n) (fun t H' => ∃ f, Bares t H H' D f) ⟨fun _ => 0, same_new nD, nD, upd_same, fun j h => absurd h (Nat.not_lt_zero j), fun j h => absurd h (Nat.not_lt_zero j), fun j h => absurd h (Nat.not_lt_zero j), fun j k h => absurd h (Nat.not_lt_zero j)⟩ ?_ ?_
  · rintro t H' ht ⟨f, b⟩
    refine ⟨wipe1, ?_⟩
    dsimp only [tYes]
    rw [if_pos rfl]
    refine ⟨Nat.zero_le _, fun q nq => ?_⟩
    have nqD : D ≠ q := ne_of_none b.lst nq
    have nf : ∀ j, j < t → f j ≠ q := fun j hj => ne_of_none (b.at_ j hj) nq
    refine ⟨_, by rw [upd_ne nqD]; exact b.lst, by rw [refs_len]; exact Nat.lt_of_lt_of_le ht (Nat.le_trans hn (by decide)), fun j => if j = t then q else f j, ?_⟩
    have fe : ∀ j, j < t → (if j = t then q else f j) = f j := fun j hj => if_neg (by omega)
    have ft : (if t = t then q else f t) = q := if_pos rfl
    refine ⟨fun c o e => ?_, b.newD, ?_, fun j hj => ?_, fun j hj => ?_, fun j hj => ?_, fun j l hj hl e => ?_⟩
    · have e1 := b.same c o e
      rw [upd_ne (ne_of_none e b.newD), upd_ne (ne_of_none e1 nq)]; exact e1
    · rw [upd_same, refs_snoc (f' := fun j => if j = t then q else f j) ft fe]
    · by_cases h : j = t
      · subst h; rw [ft]; exact b.same.free nq
      · rw [fe j (by omega)]; exact b.new j (by omega)
    · by_cases h : j = t
      · subst h; rw [ft, upd_ne (Ne.symm nqD), upd_same]
      · rw [fe j (by omega), upd_ne (b.ne j (by omega)), upd_ne (nf j (by omega))]; exact b.at_ j (by omega)
    · by_cases h : j = t
      · subst h; rw [ft]; exact Ne.symm nqD
      · rw [fe j (by omega)]; exact b.ne j (by omega)
    · by_cases h : j = t
      · by_cases h2 : l = t
        · omega
        · subst h
          rw [ft, fe l (by omega)] at e
          exact absurd e.symm (nf l (by omega))
      · by_cases h2 : l = t
        · subst h2
          rw [ft, fe j (by omega)] at e
          exact absurd e (nf j (by omega))
        · rw [fe j (by omega), fe l (by omega)] at e
          exact b.inj j l (by omega) (by omega) e
  · rintro H' ⟨f, b⟩
    exact k H' D f b
/-- rows of bare lists -/
structure Grid (n m : Nat) (H H' : Hp) (D : Addr) (g : Nat → Addr) (f : Nat → Nat → Addr) : Prop where
  same : Same H H'
  newD : H D = none
  lst : H' D = some (.lst (refs n g))
  newG : ∀ i, i < n → H (g i) = none
  newF : ∀ i j, i < n → j < m → H (f i j) = none
  atG : ∀ i, i < n → H' (g i) = some (.lst (refs m (f i)))
  atF : ∀ i j, i < n → j < m → H' (f i j) = some (.lst [])
  neG : ∀ i, i < n → g i ≠ D
  neF : ∀ i j, i < n → j < m → f i j ≠ D
  neGF : ∀ i i' j, i < n → i' < n → j < m → g i ≠ f i' j
  injG : ∀ i i', i < n → i' < n → g i = g i' → i = i'
  injF : ∀ i j i' j', i < n → j < m → i' < n → j' < m → f i j = f i' j' → i = i' ∧ j = j'
theorem grid {m i i' : Nat} (hn : m ≤ 1000) {H : Hp} {Q : VK} {σ : L2.St} (hm : σ[1]? = some (some (.int (m : Int)))) (hi : i ≠ 1) (hi' : i' ≠ 1)
    (k : ∀ (H' : Hp) (D : Addr) (g : Nat → Addr) (f : Nat → Nat → Addr), Grid m m H H' D g f → Q (.ref D) H') :
    tLc (iRng1 (tCons (tVar 1) tNil)) (gName i) tYes (tLc (iRng1 (tCons (tVar 1) tNil)) (gName i') tYes (tLst tNil) [i']) [i] σ H Q := by
  refine ⟨_, hm, (m : Int), rfl, by omega, by omega, fun D nD => ?_⟩
  rw [Int.toNat_natCast]
  refine lc_range (lo := 0) (n := m) (fun t H' => ∃ g f, Grid t m H H' D g f) ⟨fun _ => 0, fun _ _ => 0, same_new nD, nD, upd_same, fun j h => absurd h (Nat.not_lt_zero j), fun j _ h => absurd h (Nat.not_lt_zero j), fun j h => absurd h (Nat.not_lt_zero j),
    fun j _ h => absurd h (Nat.not_lt_zero j), fun j h => absurd h (Nat.not_lt_zero j), fun j _ h => absurd h (Nat.not_lt_zero j), fun j _ _ h => absurd h (Nat.not_lt_zero j), fun j _ h => absurd h (Nat.not_lt_zero j), fun j _ _ _ h => absurd h (Nat.not_lt_zero j)⟩ ?_ ?_
  · rintro t H' ht ⟨g, f, b⟩
    refine ⟨wipe1, ?_⟩
    dsimp only [tYes]
    rw [if_pos rfl]
    refine bares (jj := 1) hn (wiped_at hm hi) hi' fun H2 q r c => ?_
    have nqD : D ≠ q := ne_of_none b.lst c.newD
    have nrD : ∀ j, j < m → r j ≠ D := fun j hj => Ne.symm (ne_of_none b.lst (c.new j hj))
    have ngq : ∀ j, j < t → g j ≠ q := fun j hj => ne_of_none (b.atG j hj) c.newD
    have nfq : ∀ j l, j < t → l < m → f j l ≠ q := fun j l hj hl => ne_of_none (b.atF j l hj hl) c.newD
    have ngr : ∀ j l, j < t → l < m → g j ≠ r l := fun j l hj hl => ne_of_none (b.atG j hj) (c.new l hl)
    have nfr : ∀ j l x, j < t → l < m → x < m → f j l ≠ r x := fun j l x hj hl hx => ne_of_none (b.atF j l hj hl) (c.new x hx)
    refine ⟨_, c.same _ _ b.lst, by rw [refs_len]; exact Nat.lt_of_lt_of_le ht (Nat.le_trans hn (by decide)), fun j => if j = t then q else g j, fun j => if j = t then r else f j, ?_⟩
    have ge : ∀ j, j < t → (if j = t then q else g j) = g j := fun j hj => if_neg (by omega)
    have gt : (if t = t then q else g t) = q := if_pos rfl
    have fe : ∀ j, j < t → (if j = t then r else f j) = f j := fun j hj => if_neg (by omega)
    have ft : (if t = t then r else f t) = r := if_pos rfl
    refine ⟨fun c' o e => ?_, b.newD, ?_, fun j hj => ?_, fun j l hj hl => ?_, fun j hj => ?_, fun j l hj hl => ?_, fun j hj => ?_, fun j l hj hl => ?_, fun j j' l hj hj' hl => ?_, fun j j' hj hj' e => ?_, fun j l j' l' hj hl hj' hl' e => ?_⟩
    · rw [upd_ne (ne_of_none e b.newD)]; exact c.same _ _ (b.same c' o e)
    · rw [upd_same, refs_snoc (f' := fun j => if j = t then q else g j) gt ge]
    · by_cases h : j = t
      · subst h; rw [gt]; exact b.same.free c.newD
      · rw [ge j (by omega)]; exact b.newG j (by omega)
    · by_cases h : j = t
      · subst h; rw [ft]; exact b.same.free (c.new l hl)
      · rw [fe j (by omega)]; exact b.newF j l (by omega) hl
    · by_cases h : j = t
      · subst h; rw [gt, ft, upd_ne (Ne.symm nqD)]; exact c.lst
      · rw [ge j (by omega), fe j (by omega), upd_ne (b.neG j (by omega))]; exact c.same _ _ (b.atG j (by omega))
    · by_cases h : j = t
      · subst h; rw [ft, upd_ne (nrD l hl)]; exact c.at_ l hl
      · rw [fe j (by omega), upd_ne (b.neF j l (by omega) hl)]; exact c.same _ _ (b.atF j l (by omega) hl)
    · by_cases h : j = t
      · subst h; rw [gt]; exact Ne.symm nqD
      · rw [ge j (by omega)]; exact b.neG j (by omega)
    · by_cases h : j = t
      · subst h; rw [ft]; exact nrD l hl
      · rw [fe j (by omega)]; exact b.neF j l (by omega) hl
    · by_cases h : j = t
      · by_cases h2 : j' = t
        · subst h; subst h2; rw [gt, ft]; exact Ne.symm (c.ne l hl)
        · subst h; rw [gt, fe j' (by omega)]; exact Ne.symm (nfq j' l (by omega) hl)
      · by_cases h2 : j' = t
        · subst h2; rw [ge j (by omega), ft]; exact ngr j l (by omega) hl
        · rw [ge j (by omega), fe j' (by omega)]; exact b.neGF j j' l (by omega) (by omega) hl
    · by_cases h : j = t
      · by_cases h2 : j' = t
        · omega
        · subst h; rw [gt, ge j' (by omega)] at e; exact absurd e.symm (ngq j' (by omega))
      · by_cases h2 : j' = t
        · subst h2; rw [ge j (by omega), gt] at e; exact absurd e (ngq j (by omega))
        · rw [ge j (by omega), ge j' (by omega)] at e; exact b.injG j j' (by omega) (by omega) e
    · by_cases h : j = t
      · by_cases h2 : j' = t
        · subst h; subst h2
          rw [ft] at e
          exact ⟨rfl, c.inj l l' hl hl' e⟩
        · subst h; rw [ft, fe j' (by omega)] at e; exact absurd e.symm (nfr j' l' l (by omega) hl' hl)
      · by_cases h2 : j' = t
        · subst h2; rw [fe j (by omega), ft] at e; exact absurd e (nfr j l l' (by omega) hl hl')
        · rw [fe j (by omega), fe j' (by omega)] at e; exact b.injF j l j' l' (by omega) hl (by omega) hl' e
  · rintro H' ⟨g, f, b⟩
    exact k H' D g f b

def tabI (p DW DR DM : Addr) (gW gM fR : Nat → Addr) (fW fM : Nat → Nat → Addr) : Ky → Addr
  | .ins => p
  | .W => DW
  | .R => DR
  | .M => DM
  | .Wr i => gW i
  | .Mr i => gM i
  | .Rr i => fR i
  | .Wq i j => fW i j
  | .Mq i j => fM i j
def lev : Ky → Nat
  | .ins => 0
  | .W => 1
  | .Wr _ => 1
  | .Wq _ _ => 1
  | .R => 2
  | .Rr _ => 2
  | .M => 3
  | .Mr _ => 3
  | .Mq _ _ => 3
theorem get2_rep {α : Type} {m i j : Nat} {x : α} (hi : i < m) (hj : j < m) : get2 (List.replicate m (List.replicate m x)) i j = some x := by
  unfold get2
  rw [List.getElem?_replicate_of_lt hi]
  exact List.getElem?_replicate_of_lt hj
section
variable {P : Program} {w : World} {K : PySem.W.Frag} {mg : Str → Option Value} {base : Heap}
def spInit (C : Addr) : Sp := fun vs H Q _ => ∃ (p dx : Addr) (m : Nat), vs = [.ref p, .int m] ∧ m ≤ 1000 ∧ H p = some (.ins C dx []) ∧
  ∀ (H' : Hp) (ad : Ky → Addr), (∀ ca : Nat → V, Rep C m ca ad (init m) H') → ad .ins = p → (∀ b o, H b = some o → b ≠ p → H' b = some o) → (∀ k, k.ok m → k ≠ .ins → H (ad k) = none) → Q .non H'
theorem scInit : FnScope ["self", "many", "one", "gate", "place"] ["self", "many"] (defScope sInit) := ⟨rfl, rfl, rfl, by decide +kernel, rfl, by decide +kernel, by decide +kernel⟩
theorem ok_init {f C I : Addr} {fd : FuncData} (F : Fun K "__init__" "Spread.__init__" sInit f fd) (T : Txt K mg C I) : FnOk P w K mg base CX0 1 f fd ["self", "many"] (spInit C) := by
  refine F.ok scInit (fun vs H Q E h => ?_) (fun cdv A outer s H vs Q E hr h => ?_)
  · obtain ⟨p, dx, m, rfl, _⟩ := h
    rfl
  · obtain ⟨p, dx, m, rfl, hm, hp, k⟩ := h
    refine ⟨_, pss_cons (ps_fld (pv 0) (pv 1) rfl)
      (pss_cons (ps_fld (pv 0) (pe_lc (own := [("one", 2)]) (g := gName 2) (tt := tYes) rfl scInit.nd (pi_range1 rfl T.range (pa_cons (pv 1) pa_nil)) (blkOk_by (own := [("one", 2)]) (N := ["self", "many", "one", "gate", "place"]) (sc := defScope sInit) (by decide +kernel))
          (fun _ _ _ _ _ => pg_name (i := 2) scInit.nd rfl (Or.inl rfl)) (fun _ _ _ _ _ => pts_nil)
          (fun _ _ _ _ _ => pe_lc (own := [("gate", 3)]) (g := gName 3) (tt := tYes) rfl scInit.nd (pi_range1 rfl T.range (pa_cons (pv 1) pa_nil)) (blkOk_by (own := [("gate", 3)]) (by rfl))
            (fun _ _ _ _ _ => pg_name (i := 3) scInit.nd rfl (Or.inl rfl)) (fun _ _ _ _ _ => pts_nil) (fun _ _ _ _ _ => pe_lst pa_nil))) rfl)
      (pss_cons (ps_fld (pv 0) (pe_lc (own := [("one", 2)]) (g := gName 2) (tt := tYes) rfl scInit.nd (pi_range1 rfl T.range (pa_cons (pv 1) pa_nil)) (blkOk_by (own := [("one", 2)]) (N := ["self", "many", "one", "gate", "place"]) (sc := defScope sInit) (by decide +kernel))
          (fun _ _ _ _ _ => pg_name (i := 2) scInit.nd rfl (Or.inl rfl)) (fun _ _ _ _ _ => pts_nil) (fun _ _ _ _ _ => pe_lst pa_nil)) rfl)
      (pss_cons (ps_fld (pv 0) (pe_lc (own := [("place", 4)]) (g := gName 4) (tt := tYes) rfl scInit.nd (pi_range1 rfl T.range (pa_cons (pv 1) pa_nil)) (blkOk_by (own := [("place", 4)]) (N := ["self", "many", "one", "gate", "place"]) (sc := defScope sInit) (by decide +kernel))
          (fun _ _ _ _ _ => pg_name (i := 4) scInit.nd rfl (Or.inl rfl)) (fun _ _ _ _ _ => pts_nil)
          (fun _ _ _ _ _ => pe_lc (own := [("gate", 3)]) (g := gName 3) (tt := tYes) rfl scInit.nd (pi_range1 rfl T.range (pa_cons (pv 1) pa_nil)) (blkOk_by (own := [("gate", 3)]) (by rfl))
            (fun _ _ _ _ _ => pg_name (i := 3) scInit.nd rfl (Or.inl rfl)) (fun _ _ _ _ _ => pts_nil) (fun _ _ _ _ _ => pe_lst pa_nil))) rfl)
      (pss_one (ps_fld (pv 0) pe_int rfl))))), ?_⟩
    refine ⟨_, rfl, _, rfl, p, C, dx, _, rfl, hp, T.cl, T.nMany, (by show 0 < 1000; decide), ?_⟩
    dsimp only [tSeq, sFld]
    refine grid (i := 2) (i' := 3) hm rfl (by decide) (by decide) fun H2 DW gW fW GW => ?_
    have hp1 : upd H p (.ins C dx (putF "many" (.int (m : Int)) [])) p = some (.ins C dx (putF "many" (.int (m : Int)) [])) := upd_same
    have up1 : ∀ b, b ≠ p → upd H p (.ins C dx (putF "many" (.int (m : Int)) [])) b = H b := fun b hb => upd_ne hb
    generalize upd H p (.ins C dx (putF "many" (.int (m : Int)) [])) = H1 at GW hp1 up1
    have l1 : (putF "many" (V.int (m : Int)) []).length ≤ 1 := length_putF _ _ _
    have hp2 := GW.same _ _ hp1
    refine ⟨_, rfl, p, C, dx, _, rfl, hp2, T.cl, T.nWait, Nat.lt_of_le_of_lt l1 (by decide), ?_⟩
    have hp3 : upd H2 p (.ins C dx (putF "waiting" (.ref DW) (putF "many" (.int (m : Int)) []))) p = some (.ins C dx (putF "waiting" (.ref DW) (putF "many" (.int (m : Int)) []))) := upd_same
    have up3 : ∀ b, b ≠ p → upd H2 p (.ins C dx (putF "waiting" (.ref DW) (putF "many" (.int (m : Int)) []))) b = H2 b := fun b hb => upd_ne hb
    generalize upd H2 p (.ins C dx (putF "waiting" (.ref DW) (putF "many" (.int (m : Int)) []))) = H3 at hp3 up3 ⊢
    have l2 : (putF "waiting" (V.ref DW) (putF "many" (V.int (m : Int)) [])).length ≤ 2 := Nat.le_trans (length_putF _ _ _) (Nat.succ_le_succ l1)
    refine bares (i := 2) (jj := 1) hm rfl (by decide) fun H4 DR fR BR => ?_
    have hp4 := BR.same _ _ hp3
    refine ⟨_, rfl, p, C, dx, _, rfl, hp4, T.cl, T.nRows, Nat.lt_of_le_of_lt l2 (by decide), ?_⟩
    have hp5 : upd H4 p (.ins C dx (putF "rows" (.ref DR) (putF "waiting" (.ref DW) (putF "many" (.int (m : Int)) [])))) p = some (.ins C dx (putF "rows" (.ref DR) (putF "waiting" (.ref DW) (putF "many" (.int (m : Int)) [])))) := upd_same
    have up5 : ∀ b, b ≠ p → upd H4 p (.ins C dx (putF "rows" (.ref DR) (putF "waiting" (.ref DW) (putF "many" (.int (m : Int)) [])))) b = H4 b := fun b hb => upd_ne hb
    generalize upd H4 p (.ins C dx (putF "rows" (.ref DR) (putF "waiting" (.ref DW) (putF "many" (.int (m : Int)) [])))) = H5 at hp5 up5 ⊢
    have l3 : (putF "rows" (V.ref DR) (putF "waiting" (V.ref DW) (putF "many" (V.int (m : Int)) []))).length ≤ 3 := Nat.le_trans (length_putF _ _ _) (Nat.succ_le_succ l2)
    refine grid (i := 4) (i' := 3) hm rfl (by decide) (by decide) fun H6 DM gM fM GM => ?_
    have hp6 := GM.same _ _ hp5
    refine ⟨_, rfl, p, C, dx, _, rfl, hp6, T.cl, T.nMid, Nat.lt_of_le_of_lt l3 (by decide), ?_⟩
    have l4 : (putF "middle" (V.ref DM) (putF "rows" (V.ref DR) (putF "waiting" (V.ref DW) (putF "many" (V.int (m : Int)) [])))).length ≤ 4 := Nat.le_trans (length_putF _ _ _) (Nat.succ_le_succ l3)
    refine ⟨_, rfl, p, C, dx, _, rfl, upd_same, T.cl, T.nSlot, Nat.lt_of_le_of_lt l4 (by decide), ?_⟩
    rw [upd_upd]
    -- what is new when
    have z31 : ∀ b, H3 b = none → H1 b = none := fun b hb => GW.same.free (by rw [← up3 b (fun e => by rw [e, hp3] at hb; cases hb)]; exact hb)
    have z53 : ∀ b, H5 b = none → H3 b = none := fun b hb => BR.same.free (by rw [← up5 b (fun e => by rw [e, hp5] at hb; cases hb)]; exact hb)
    have z1 : ∀ b, H1 b = none → H b = none := fun b hb => by rw [← up1 b (fun e => by rw [e, hp1] at hb; cases hb)]; exact hb
    have np1 : ∀ b, H1 b = none → b ≠ p := fun b hb e => by rw [e, hp1] at hb; cases hb
    have np3 : ∀ b, H3 b = none → b ≠ p := fun b hb => np1 b (z31 b hb)
    have np5 : ∀ b, H5 b = none → b ≠ p := fun b hb => np3 b (z53 b hb)
    have keep3 : ∀ b o, H1 b = none → H2 b = some o → H6 b = some o := fun b o h h2 => GM.same _ _ ((up5 b (np1 b h)).trans (BR.same _ _ ((up3 b (np1 b h)).trans h2)))
    have keep5 : ∀ b o, H3 b = none → H4 b = some o → H6 b = some o := fun b o h h2 => GM.same _ _ ((up5 b (np3 b h)).trans h2)
    have some3 : ∀ b o, H1 b = none → H2 b = some o → H3 b = some o := fun b o h h2 => (up3 b (np1 b h)).trans h2
    have some5 : ∀ b o, H3 b = none → H4 b = some o → H5 b = some o := fun b o h h2 => (up5 b (np3 b h)).trans h2
    refine k _ (tabI p DW DR DM gW gM fR fW fM) ?_ rfl ?_ ?_
    · intro ca
      have e8 : ∀ b o, b ≠ p → H6 b = some o → upd H6 p (.ins C dx (putF "slot" (.int 0) (putF "middle" (.ref DM) (putF "rows" (.ref DR) (putF "waiting" (.ref DW) (putF "many" (.int (m : Int)) [])))))) b = some o := fun b o hb h => by rw [upd_ne hb]; exact h
      -- by when they were made
      have lv : ∀ q : Ky, q.ok m → (lev q = 0 ∧ tabI p DW DR DM gW gM fR fW fM q = p) ∨ (lev q = 1 ∧ H1 (tabI p DW DR DM gW gM fR fW fM q) = none ∧ ∃ o, H3 (tabI p DW DR DM gW gM fR fW fM q) = some o) ∨
          (lev q = 2 ∧ H3 (tabI p DW DR DM gW gM fR fW fM q) = none ∧ ∃ o, H5 (tabI p DW DR DM gW gM fR fW fM q) = some o) ∨ (lev q = 3 ∧ H5 (tabI p DW DR DM gW gM fR fW fM q) = none) := fun q hq => by
        cases q with
        | ins => exact .inl ⟨rfl, rfl⟩
        | W => exact .inr (.inl ⟨rfl, GW.newD, _, some3 _ _ GW.newD GW.lst⟩)
        | Wr i => exact .inr (.inl ⟨rfl, GW.newG i hq, _, some3 _ _ (GW.newG i hq) (GW.atG i hq)⟩)
        | Wq i j => exact .inr (.inl ⟨rfl, GW.newF i j hq.1 hq.2, _, some3 _ _ (GW.newF i j hq.1 hq.2) (GW.atF i j hq.1 hq.2)⟩)
        | R => exact .inr (.inr (.inl ⟨rfl, BR.newD, _, some5 _ _ BR.newD BR.lst⟩))
        | Rr i => exact .inr (.inr (.inl ⟨rfl, BR.new i hq, _, some5 _ _ (BR.new i hq) (BR.at_ i hq)⟩))
        | M => exact .inr (.inr (.inr ⟨rfl, GM.newD⟩))
        | Mr i => exact .inr (.inr (.inr ⟨rfl, GM.newG i hq⟩))
        | Mq i j => exact .inr (.inr (.inr ⟨rfl, GM.newF i j hq.1 hq.2⟩))
      refine ⟨fun q q' hq hq' e => ?_, fun q hq => ?_⟩
      · have el : lev q = lev q' := by
          rcases lv q hq with ⟨a1, a2⟩ | ⟨a1, a2, o, a3⟩ | ⟨a1, a2, o, a3⟩ | ⟨a1, a2⟩
          · rcases lv q' hq' with ⟨b1, b2⟩ | ⟨b1, b2, o, b3⟩ | ⟨b1, b2, o, b3⟩ | ⟨b1, b2⟩
            · rw [a1, b1]
            · exact absurd (e.symm.trans a2) (np1 _ b2)
            · exact absurd (e.symm.trans a2) (np3 _ b2)
            · exact absurd (e.symm.trans a2) (np5 _ b2)
          · rcases lv q' hq' with ⟨b1, b2⟩ | ⟨b1, b2, o', b3⟩ | ⟨b1, b2, o', b3⟩ | ⟨b1, b2⟩
            · exact absurd (e.trans b2) (np1 _ a2)
            · rw [a1, b1]
            · rw [e, b2] at a3; cases a3
            · rw [e, z53 _ b2] at a3; cases a3
          · rcases lv q' hq' with ⟨b1, b2⟩ | ⟨b1, b2, o', b3⟩ | ⟨b1, b2, o', b3⟩ | ⟨b1, b2⟩
            · exact absurd (e.trans b2) (np3 _ a2)
            · rw [← e, a2] at b3; cases b3
            · rw [a1, b1]
            · rw [e, b2] at a3; cases a3
          · rcases lv q' hq' with ⟨b1, b2⟩ | ⟨b1, b2, o', b3⟩ | ⟨b1, b2, o', b3⟩ | ⟨b1, b2⟩
            · exact absurd (e.trans b2) (np5 _ a2)
            · rw [← e, z53 _ a2] at b3; cases b3
            · rw [← e, a2] at b3; cases b3
            · rw [a1, b1]
        cases q with
        | ins => cases q' with
          | ins => rfl
          | _ => cases el
        | W => cases q' with
          | W => rfl
          | Wr i => exact absurd e.symm (GW.neG i hq')
          | Wq i j => exact absurd e.symm (GW.neF i j hq'.1 hq'.2)
          | _ => cases el
        | Wr i => cases q' with
          | W => exact absurd e (GW.neG i hq)
          | Wr i' => rw [GW.injG i i' hq hq' e]
          | Wq i' j => exact absurd e (GW.neGF i i' j hq hq'.1 hq'.2)
          | _ => cases el
        | Wq i j => cases q' with
          | W => exact absurd e (GW.neF i j hq.1 hq.2)
          | Wr i' => exact absurd e.symm (GW.neGF i' i j hq' hq.1 hq.2)
          | Wq i' j' =>
            obtain ⟨x1, x2⟩ := GW.injF i j i' j' hq.1 hq.2 hq'.1 hq'.2 e
            rw [x1, x2]
          | _ => cases el
        | R => cases q' with
          | R => rfl
          | Rr i => exact absurd e.symm (BR.ne i hq')
          | _ => cases el
        | Rr i => cases q' with
          | R => exact absurd e (BR.ne i hq)
          | Rr i' => rw [BR.inj i i' hq hq' e]
          | _ => cases el
        | M => cases q' with
          | M => rfl
          | Mr i => exact absurd e.symm (GM.neG i hq')
          | Mq i j => exact absurd e.symm (GM.neF i j hq'.1 hq'.2)
          | _ => cases el
        | Mr i => cases q' with
          | M => exact absurd e (GM.neG i hq)
          | Mr i' => rw [GM.injG i i' hq hq' e]
          | Mq i' j => exact absurd e (GM.neGF i i' j hq hq'.1 hq'.2)
          | _ => cases el
        | Mq i j => cases q' with
          | M => exact absurd e (GM.neF i j hq.1 hq.2)
          | Mr i' => exact absurd e.symm (GM.neGF i' i j hq' hq.1 hq.2)
          | Mq i' j' =>
            obtain ⟨x1, x2⟩ := GM.injF i j i' j' hq.1 hq.2 hq'.1 hq'.2 e
            rw [x1, x2]
          | _ => cases el
      · cases q with
        | ins => exact ⟨dx, upd_same⟩
        | W => exact e8 _ _ (np1 _ GW.newD) (keep3 _ _ GW.newD GW.lst)
        | Wr i => exact e8 _ _ (np1 _ (GW.newG i hq)) (keep3 _ _ (GW.newG i hq) (GW.atG i hq))
        | Wq i j => exact ⟨[], get2_rep hq.1 hq.2, e8 _ _ (np1 _ (GW.newF i j hq.1 hq.2)) (keep3 _ _ (GW.newF i j hq.1 hq.2) (GW.atF i j hq.1 hq.2))⟩
        | R => exact e8 _ _ (np3 _ BR.newD) (keep5 _ _ BR.newD BR.lst)
        | Rr i => exact ⟨[], [], List.getElem?_replicate_of_lt hq, e8 _ _ (np3 _ (BR.new i hq)) (keep5 _ _ (BR.new i hq) (BR.at_ i hq)), .nil⟩
        | M => exact e8 _ _ (np5 _ GM.newD) GM.lst
        | Mr i => exact e8 _ _ (np5 _ (GM.newG i hq)) (GM.atG i hq)
        | Mq i j => exact ⟨[], [], get2_rep hq.1 hq.2, e8 _ _ (np5 _ (GM.newF i j hq.1 hq.2)) (GM.atF i j hq.1 hq.2), .nil⟩
    · intro b o e hb
      rw [upd_ne hb]
      exact GM.same _ _ ((up5 b hb).trans (BR.same _ _ ((up3 b hb).trans (GW.same _ _ ((up1 b hb).trans e)))))
    · intro q hq hne
      cases q with
      | ins => exact absurd rfl hne
      | W => exact z1 _ GW.newD
      | Wr i => exact z1 _ (GW.newG i hq)
      | Wq i j => exact z1 _ (GW.newF i j hq.1 hq.2)
      | R => exact z1 _ (z31 _ BR.newD)
      | Rr i => exact z1 _ (z31 _ (BR.new i hq))
      | M => exact z1 _ (z31 _ (z53 _ GM.newD))
      | Mr i => exact z1 _ (z31 _ (z53 _ (GM.newG i hq)))
      | Mq i j => exact z1 _ (z31 _ (z53 _ (GM.newF i j hq.1 hq.2)))
end
end K44

set_option Elab.async false
set_option maxRecDepth 100000
set_option maxHeartbeats 1000000
set_option pp.maxSteps 600
set_option linter.all false
namespace K44
open PySem L2
/-! ### sorted: of one item at most; of pairs of ints, in a list or as a dict's keys -/
abbrev PQ := Int × Int
def PairV (H : Hp) (v : V) (q : PQ) : Prop := TupV H v [.int q.1, .int q.2]
/-- the pair that v stands for -/
def pairAt (H : Hp) (v : V) : PQ := match v with
  | .ref a => (match H a with
    | some (.tup [.int i, .int j]) => (i, j)
    | _ => (0, 0))
  | _ => (0, 0)
theorem pairAt_of {H : Hp} {v : V} {q : PQ} (h : PairV H v q) : pairAt H v = q := by
  obtain ⟨t, rfl, e⟩ := h
  show (match H t with | some (.tup [.int i, .int j]) => (i, j) | _ => (0, 0)) = q
  rw [e]
abbrev Rise (l : List PQ) : Prop := SrtO.Srtd SrtO.lexB l
theorem pairs_map {H : Hp} {xs : List V} {ks : List PQ} (h : Paired (PairV H) xs ks) : xs.map (pairAt H) = ks := by
  induction h with
  | nil => rfl
  | cons a b ih => rw [List.map_cons, pairAt_of a, ih]
theorem pairs_of_map {H : Hp} : ∀ {ys : List V}, (∀ y ∈ ys, ∃ q, PairV H y q) → Paired (PairV H) ys (ys.map (pairAt H))
  | [], _ => .nil
  | y :: ys, h => by
    obtain ⟨q, hq⟩ := h y List.mem_cons_self
    refine .cons ?_ (pairs_of_map fun z hz => h z (List.mem_cons_of_mem _ hz))
    rw [pairAt_of hq]; exact hq
theorem pairs_mem {H : Hp} {xs : List V} {ks : List PQ} (h : Paired (PairV H) xs ks) : ∀ x ∈ xs, ∃ q, PairV H x q := by
  induction h with
  | nil => intro x hx; cases hx
  | cons a b ih =>
    intro x hx
    rcases List.mem_cons.mp hx with e | e
    · rw [e]; exact ⟨_, a⟩
    · exact ih x e
/-- there is one rising row of given pairs -/
theorem rise_one : ∀ {l m : List PQ}, Rise l → Rise m → l.Perm m → l = m
  | [], m, _, _, p => (List.Perm.eq_nil p.symm).symm
  | x :: l, [], _, _, p => absurd p.length_eq (by simp)
  | x :: l, y :: m, hl, hm, p => by
    have e : x = y := by
      have h1 : x ∈ y :: m := p.mem_iff.mp List.mem_cons_self
      have h2 : y ∈ x :: l := p.mem_iff.mpr List.mem_cons_self
      rcases List.mem_cons.mp h1 with e | h1
      · exact e
      rcases List.mem_cons.mp h2 with e | h2
      · exact e.symm
      have a := SrtO.lexB_no.mp ((List.pairwise_cons.mp hm).1 x h1)
      have b := SrtO.lexB_no.mp ((List.pairwise_cons.mp hl).1 y h2)
      have e1 : x.1 = y.1 := by omega
      have e2 : x.2 = y.2 := by omega
      exact Prod.ext e1 e2
    subst e
    rw [rise_one (List.pairwise_cons.mp hl).2 (List.pairwise_cons.mp hm).2 (p.cons_inv)]
theorem perm_short {α : Type} {l m : List α} (p : l.Perm m) (h : m.length ≤ 1) : l = m := by
  cases m with
  | nil => exact List.Perm.eq_nil p
  | cons v r =>
    cases r with
    | nil => exact List.Perm.eq_singleton p
    | cons _ _ => simp at h
theorem pair_get {α β : Type} {F : α → β → Prop} : ∀ {l : List α} {l' : List β} {i : Nat} {b : β}, Paired F l l' → l'[i]? = some b → ∃ a, l[i]? = some a ∧ F a b
  | _, _, i, b, .nil, h => by simp at h
  | _, _, 0, b, .cons r _, h => ⟨_, rfl, by
      have e := Option.some.inj h
      rw [← e]; exact r⟩
  | _, _, i + 1, b, .cons _ t, h => pair_get (i := i) t h
section
variable {X : Cx}
theorem cr_sorted1 : CallR X (.builtin "sorted") (fun vs H Q => ∃ (a : Addr) (xs : List V), vs = [V.ref a] ∧ SqL X.K H a xs ∧ xs.length ≤ 1 ∧ ∀ p, H p = none → Q (.ref p) (upd H p (.lst xs))) := by
  intro pins s σ H vs us Q I r h
  obtain ⟨a, xs, rfl, hs, h1, q⟩ := h
  obtain ⟨its, rv, hl, hz⟩ := I.list hs
  obtain ⟨u, rfl, ru⟩ := vals1 r
  obtain rfl : u = Value.ref a := ru
  have hlen : its.length ≤ 1 := by rw [← rv.length]; exact h1
  refine SrtO.sorted_ord (ltv := fun _ _ => false) ⟨fun _ _ _ => rfl, fun _ _ _ _ _ => rfl⟩ hl.isList (by rw [← rv.length]; exact hz) (fun h2 => absurd h2 (by omega)) fun out _ hb => ?_
  have eo : out = its := perm_short hb.perm hlen
  subst eo
  obtain ⟨n, hn⟩ := PyProof.Rows.sortedAll_at s.heap out out.toArray
  exact ⟨.ref (s.heap.objs.size + 1), _, I.laid (t' := s.toks) (o := .lst xs) (fun b o e => PyProof.Rows.sortedAll_old e) (Nat.le_succ _) ⟨hz, out, n, rv, hn⟩, rfl, q _ (I.hok.fresh (Nat.le_succ _))⟩
/-- what is told of a sorted row of pairs -/
def rPairs (ks : List PQ) (H : Hp) (Q : VK) : Prop := ∀ (qs : List PQ) (ys : List V) (p : Addr), Paired (PairV H) ys qs → qs.Perm ks → Rise qs → H p = none → Q (.ref p) (upd H p (.lst ys))
theorem cr_sortedQ : CallR X (.builtin "sorted") (fun vs H Q => ∃ (a : Addr) (xs : List V) (ks : List PQ), vs = [V.ref a] ∧ SqL X.K H a xs ∧ Paired (PairV H) xs ks ∧ rPairs ks H Q) := by
  intro pins s σ H vs us Q I r h
  obtain ⟨a, xs, ks, rfl, hs, hp, q⟩ := h
  refine cr_sortedPO pins s σ H _ us Q I r ⟨a, xs, pairAt H, rfl, hs, fun x hx => ?_, fun ys p hs2 hb np => ?_⟩
  · obtain ⟨k, hk⟩ := pairs_mem hp x hx
    rw [pairAt_of hk]; exact hk
  · refine q (ys.map (pairAt H)) ys p (pairs_of_map fun y hy => pairs_mem hp y (hb.perm.mem_iff.mp hy)) ?_ (List.pairwise_map.mpr hs2) np
    rw [← pairs_map hp]
    exact hb.perm.map _
theorem cr_sortedDT (hc : X.calm = true) : CallR X (.builtin "sorted") (fun vs H Q => ∃ (d : Addr) (kvs : List (List Key × V)) (ks : List PQ), vs = [V.ref d] ∧ Rd H d (.dT kvs) ∧ kvs.map (·.1) = ks.map (fun q => [Sum.inl q.1, Sum.inl q.2]) ∧ rPairs ks H Q) := by
  intro pins s σ H vs us Q I r h
  obtain ⟨d, kvs, ks, rfl, hd, hks, q⟩ := h
  obtain ⟨u, rfl, ru⟩ := vals1 r
  obtain rfl : u = Value.ref d := ru
  obtain ⟨z, hs, es0, pr, o, es, ep, ho, hx, hdt, he, hn⟩ := (show ObjOk X.prog X.w H s.heap d (.dT kvs) from hd.ok I.hok)
  have l1 : es.size = es0.length := by
    have e := congrArg List.length he
    rw [Array.length_toList, List.length_map] at e
    exact e
  have l2 : kvs.length = es0.length := Paired.length pr
  -- the keys' tuples
  have hkey : ∀ (j : Nat) (b : List Key × Addr × Value), es0[j]? = some b → ∃ k : PQ, ks[j]? = some k ∧ PairV H (.ref b.2.1) k := fun j b hb => by
    obtain ⟨p, hp, e1, e2, _⟩ := pair_get pr hb
    have e3 : (kvs.map (·.1))[j]? = some p.1 := by rw [List.getElem?_map, hp]; rfl
    rw [hks, List.getElem?_map] at e3
    cases e4 : ks[j]? with
    | none => rw [e4] at e3; cases e3
    | some k =>
      rw [e4] at e3
      have e5 := Option.some.inj e3
      refine ⟨k, rfl, b.2.1, rfl, ?_⟩
      rw [e2, ← e5]; rfl
  refine Calls.call_function_entry PyProof.Rows.kind_sorted PyProof.Rows.plain_sorted PyProof.Rows.entry_sorted (PyProof.Rows.args_sorted1 _) ?_
  unfold Builtin.«sorted»
  refine wpAny_bind (m := checkCount "sorted" 1 1 _) (wpAny_pure ?_)
  refine wpAny_bind (PySem.W.kdu_collect (A := X.A.in1) (kdl_raw hs hx hdt) (I.ok.hd hc) ho (by omega) fun h' tk acc hk hacc => ?_)
  have ea : acc.toList = es0.map fun x => Value.ref x.2.1 := by
    apply List.ext_getElem?
    intro j
    rw [List.getElem?_map]
    cases hj : acc.toList[j]? with
    | none =>
      have h1 := List.getElem?_eq_none_iff.mp hj
      rw [Array.length_toList, hacc.1] at h1
      rw [List.getElem?_eq_none (by omega)]; rfl
    | some v =>
      obtain ⟨en, hen, hv⟩ := hacc.2 j v (by rw [← Array.getElem?_toList]; exact hj)
      have qe : es.toList[j]? = some en := by rw [Array.getElem?_toList]; exact hen
      rw [he, List.getElem?_map] at qe
      cases hb : es0[j]? with
      | none => rw [hb] at qe; cases qe
      | some b =>
        rw [hb] at qe
        have e2 := Option.some.inj qe
        rw [hv, ← e2]; rfl
  have I1 : Inv X pins σ H { s with heap := h', toks := tk } := I.kept hk
  have hsz : acc.toList.length = es0.length := by rw [ea, List.length_map]
  have hpv : ∀ v ∈ acc.toList, ∃ (t : Addr) (k : PQ), v = Value.ref t ∧ H t = some (.tup [.int k.1, .int k.2]) := fun v hv => by
    rw [ea] at hv
    obtain ⟨b, hb, e⟩ := List.mem_map.mp hv
    obtain ⟨j, hj, e2⟩ := List.getElem_of_mem hb
    obtain ⟨k, _, t, e3, e4⟩ := hkey j b (by rw [List.getElem?_eq_getElem hj, e2])
    injection e3 with e3
    exact ⟨_, k, e.symm, by rw [e3]; exact e4⟩
  refine wpAny_bind (wpAny_newList ?_ (by rw [hsz]; omega))
  have hoL : (h'.push (PyProof.Rows.seqObj "list" acc.toList.toArray 0)).get? h'.objs.size = some (PyProof.Rows.seqObj "list" acc.toList.toArray 0) := Heap.get?_push_size _ rfl
  have kp2 : ∀ b o, h'.get? b = some o → (h'.push (PyProof.Rows.seqObj "list" acc.toList.toArray 0)).get? b = some o := fun b o e => Heap.get?_push_of_some _ e
  show wpAny _ _ _ _ _ { s with heap := h'.push (PyProof.Rows.seqObj "list" acc.toList.toArray 0), toks := tk }
  have isp : ∀ v ∈ acc.toList, Srt.IsPair (h'.push (PyProof.Rows.seqObj "list" acc.toList.toArray 0)) v (pairAt H (backV v)).1 (pairAt H (backV v)).2 := fun v hv => by
    obtain ⟨t, k, rfl, ht⟩ := hpv v hv
    have e : pairAt H (backV (Value.ref t)) = k := pairAt_of ⟨t, rfl, ht⟩
    rw [e]
    obtain ⟨_, its2, r2, o2, ho2, hc2, n2, hd2⟩ := I1.hok _ _ ht
    obtain ⟨u1, u2, rfl, ri, rj⟩ := vals2 r2
    obtain ⟨t1, rfl⟩ := ri
    obtain ⟨t2, rfl⟩ := rj
    exact ⟨t, o2, t1, t2, n2, rfl, kp2 _ _ ho2, hc2, hd2⟩
  refine wpAny_bind (wpAny_holding (wpAny_call_entry PyProof.Rows.slot_list_sort ⟨_, hoL, rfl⟩ PyProof.Rows.entry_list_sort
    (SrtO.list_sort_ord (s := { s with heap := h'.push (PyProof.Rows.seqObj "list" acc.toList.toArray 0), toks := tk }) (SrtO.swo_lex fun v => pairAt H (backV v)) hoL (by rw [hsz]; omega)
      (fun h2 => SrtO.pairs_sortableO (s := { s with heap := h'.push (PyProof.Rows.seqObj "list" acc.toList.toArray 0), toks := tk }) (by omega) isp fun o' e => ?_) fun out hs2 hb => ⟨_, rfl, ?_⟩) (PyProof.Rows.args_list_sort _)))
  · have e' : some o' = some (PyProof.Rows.seqObj "list" acc.toList.toArray 0) := e.symm.trans hoL
    cases e'
    intro c
    exact absurd (Value.type.inj c) (by decide)
  obtain ⟨e', he'⟩ := PyProof.Rows.sortedHeap_at (vs := acc.toList) (out := out.toArray) hoL
  have href : ∀ u ∈ out, ∃ a, u = Value.ref a := fun u hu => by
    obtain ⟨t, _, e, _⟩ := hpv u (hb.perm.mem_iff.mp hu)
    exact ⟨t, e⟩
  have hlen : (out.map backV).length ≤ sizeLine := by
    rw [List.length_map, hb.perm.length_eq, hsz]; omega
  have hys : Paired (PairV H) (out.map backV) ((out.map backV).map (pairAt H)) := pairs_of_map fun y hy => by
    obtain ⟨u, hu, e⟩ := List.mem_map.mp hy
    obtain ⟨t, k, e2, ht⟩ := hpv u (hb.perm.mem_iff.mp hu)
    rw [← e, e2]
    exact ⟨k, t, rfl, ht⟩
  refine wpAny_pure ⟨_, rfl, .ref h'.objs.size, upd H h'.objs.size (.lst (out.map backV)), I1.laid (t' := tk) (fun b u e => ?_) (Nat.le_refl _)
    (show ObjOk X.prog X.w _ _ _ (.lst (out.map backV)) from ⟨hlen, out, e', vals_back href, he'⟩), rfl, q _ _ _ hys ?_ ?_ (I1.hok.fresh (Nat.le_refl _))⟩
  · have hb2 : b < h'.objs.size := Heap.lt_size e
    rw [PyProof.Rows.sortedHeap_old (Nat.ne_of_lt hb2) (by rw [PyProof.Rows.size_push']; exact Nat.lt_succ_of_lt hb2)]
    exact Heap.get?_push_of_some _ e
  · have p1 := (hb.perm.map backV).map (pairAt H)
    have e1 : (acc.toList.map backV).map (pairAt H) = ks := by
      apply List.ext_getElem?
      intro j
      rw [ea, List.getElem?_map, List.getElem?_map, List.getElem?_map]
      cases hb3 : es0[j]? with
      | none =>
        have h1 := List.getElem?_eq_none_iff.mp hb3
        have h2 := congrArg List.length hks
        rw [List.length_map, List.length_map] at h2
        rw [List.getElem?_eq_none (by omega)]; rfl
      | some b =>
        obtain ⟨k, h1, h2⟩ := hkey j b hb3
        rw [h1]
        show some (pairAt H (.ref b.2.1)) = some k
        rw [pairAt_of h2]
    rw [e1] at p1
    exact p1
  · rw [List.map_map]
    exact List.pairwise_map.mpr hs2
end
end K44

set_option Elab.async false
set_option maxRecDepth 100000
set_option pp.maxSteps 600
set_option linter.all false
namespace K44
open PySem L2
/-! ### the arrivals; what the ideal switch sends -/
structure Arr (ca : Nat → V) (arr : List (Nat × Nat)) (ar : Addr) (al am : Nat → Addr) (H : Hp) : Prop where
  lst : H ar = some (.lst (refs arr.length al))
  row : ∀ k, k < arr.length → H (al k) = some (.lst [.ref (am k)])
  tup : ∀ (k : Nat) (p : Nat × Nat), arr[k]? = some p → H (am k) = some (.tup [.int (p.1 : Nat), .int (p.2 : Nat), ca k])
theorem Arr.mono {ca : Nat → V} {arr : List (Nat × Nat)} {ar : Addr} {al am : Nat → Addr} {H H' : Hp} (a : Arr ca arr ar al am H) (s : Same H H') : Arr ca arr ar al am H' :=
  ⟨s _ _ a.lst, fun k hk => s _ _ (a.row k hk), fun k p e => s _ _ (a.tup k p e)⟩
def Slot (ca : Nat → V) (arr : List (Nat × Nat)) (H : Hp) (k : Nat) (vs : List V) : Prop :=
  match arr[k]? with
  | some p => ∃ u, vs = [V.ref u] ∧ H u = some (.tup [.int (p.2 : Nat), ca k])
  | none => vs = []
theorem Slot.mono {ca : Nat → V} {arr : List (Nat × Nat)} {H H' : Hp} (t : Tups H H') {k : Nat} {vs : List V} (h : Slot ca arr H k vs) : Slot ca arr H' k vs := by
  unfold Slot at h ⊢
  cases e : arr[k]? with
  | none => rw [e] at h; exact h
  | some p => rw [e] at h; obtain ⟨u, e1, e2⟩ := h; exact ⟨u, e1, t _ _ e2⟩
theorem Slot.short {ca : Nat → V} {arr : List (Nat × Nat)} {H : Hp} {k : Nat} {vs : List V} (h : Slot ca arr H k vs) : vs.length ≤ 1 := by
  unfold Slot at h
  cases e : arr[k]? with
  | none => rw [e] at h; rw [h]; exact Nat.zero_le _
  | some p => rw [e] at h; obtain ⟨u, e1, e2⟩ := h; rw [e1]; exact Nat.le_refl _
def IdealV (ca : Nat → V) (arr : List (Nat × Nat)) (N : Nat) (H : Hp) (xs : List V) : Prop :=
  xs.length = N ∧ ∀ k, k < N → ∃ r vs, xs[k]? = some (V.ref r) ∧ H r = some (.tup vs) ∧ Slot ca arr H k vs
def spRun : Sp := fun vs H Q _ => ∃ (m N : Nat) (ca : Nat → V) (arr : List (Nat × Nat)) (ar : Addr) (al am : Nat → Addr), vs = [.int m, .ref ar, .int N] ∧ m ≤ 1000 ∧ N ≤ 1000 ∧ arr.length ≤ N ∧ (∀ (k : Nat) (p : Nat × Nat), arr[k]? = some p → p.2 < m) ∧ Arr ca arr ar al am H ∧
  ∀ (H' : Hp) (q : Addr) (xs : List V), Same H H' → H' q = some (.tup xs) → IdealV ca arr N H' xs → Q (.ref q) H'

structure RunI (I : Addr) (ca : Nat → V) (arr : List (Nat × Nat)) (m N : Nat) (p dx l rw_ : Addr) (rr : Nat → Addr) (H : Hp) (i : Nat) (H' : Hp) : Prop where
  same : Same H H'
  ins : H' p = some (.ins I dx (fI l))
  free : ∃ fr : List Nat, H' l = some (.lst (vnat fr)) ∧ fr.length = m ∧ ∀ (g f : Nat), fr[g]? = some f → f ≤ i
  lst : H' rw_ = some (.lst (refs N rr))
  row : ∀ j, j < N → ∃ vs, H' (rr j) = some (.lst vs) ∧ (j < i → Slot ca arr H' j vs) ∧ (¬ j < i → vs = [])
  newL : H l = none
  newR : ∀ j, j < N → H (rr j) = none
  inj : ∀ j k, j < N → k < N → rr j = rr k → j = k
  neL : ∀ j, j < N → rr j ≠ l
  neW : ∀ j, j < N → rr j ≠ rw_
  lW : l ≠ rw_
section
variable {I : Addr} {ca : Nat → V} {arr : List (Nat × Nat)} {m N : Nat} {p dx l rw_ : Addr} {rr : Nat → Addr} {H H' H1 : Hp} {i : Nat}
theorem RunI.mono (r : RunI I ca arr m N p dx l rw_ rr H i H') (s : Same H' H1) : RunI I ca arr m N p dx l rw_ rr H i H1 where
  same := r.same.trans s
  ins := s _ _ r.ins
  free := let ⟨fr, e, q⟩ := r.free; ⟨fr, s _ _ e, q⟩
  lst := s _ _ r.lst
  row := fun j hj => let ⟨vs, e, q1, q2⟩ := r.row j hj; ⟨vs, s _ _ e, fun h => (q1 h).mono (Tups.same s), q2⟩
  newL := r.newL
  newR := r.newR
  inj := r.inj
  neL := r.neL
  neW := r.neW
  lW := r.lW
theorem RunI.more (r : RunI I ca arr m N p dx l rw_ rr H i H') {g : Nat} {fr : List Nat} (e : H' l = some (.lst (vnat fr))) (hl : fr.length = m) (hf : ∀ (g f : Nat), fr[g]? = some f → f ≤ i) {q : Nat × Nat} (ha : arr[i]? = some q) (hi : i < N)
    {u : Addr} (nu : upd H' l (.lst (vnat (fr.set g (i + 1)))) u = none) :
    ∃ H2, Same (upd H' l (.lst (vnat (fr.set g (i + 1))))) H2 ∧ H2 = upd (upd H' l (.lst (vnat (fr.set g (i + 1))))) u (.tup [.int (q.2 : Nat), ca i]) ∧ H2 rw_ = some (.lst (refs N rr)) ∧ H2 (rr i) = some (.lst []) ∧ RunI I ca arr m N p dx l rw_ rr H (i + 1) (upd H2 (rr i) (.lst [V.ref u])) := by
  have sm : Same (upd H' l (.lst (vnat (fr.set g (i + 1))))) (upd (upd H' l (.lst (vnat (fr.set g (i + 1))))) u (.tup [.int (q.2 : Nat), ca i])) := same_new nu
  have npl : p ≠ l := ne_of r.ins e (by intro z; cases z)
  have up : ∀ b, b ≠ l → upd H' l (.lst (vnat (fr.set g (i + 1)))) b = H' b := fun b hb => upd_ne hb
  obtain ⟨vs0, e0, _, q0⟩ := r.row i hi
  have ev := q0 (Nat.lt_irrefl i)
  subst ev
  have uri : rr i ≠ u := ne_of_none (by rw [up _ (r.neL i hi)]; exact e0) nu
  have ul : u ≠ l := fun z => by rw [z, upd_same] at nu; cases nu
  have uw : rw_ ≠ u := ne_of_none (by rw [up _ (Ne.symm r.lW)]; exact r.lst) nu
  have upu : p ≠ u := ne_of_none (by rw [up _ npl]; exact r.ins) nu
  refine ⟨_, sm, rfl, by rw [upd_ne uw, up _ (Ne.symm r.lW)]; exact r.lst, by rw [upd_ne uri, up _ (r.neL i hi)]; exact e0, ?_⟩
  have npr : p ≠ rr i := ne_of r.ins e0 (by intro z; cases z)
  refine ⟨fun b o hb => ?_, ?_, ⟨fr.set g (i + 1), ?_, ?_, ?_⟩, ?_, fun j hj => ?_, r.newL, r.newR, r.inj, r.neL, r.neW, r.lW⟩
  · have h1 := r.same b o hb
    have n1 : b ≠ l := ne_of_none hb r.newL
    have n2 : b ≠ rr i := ne_of_none hb (r.newR i hi)
    have h2 : upd H' l (.lst (vnat (fr.set g (i + 1)))) b = some o := by rw [up _ n1]; exact h1
    rw [upd_ne n2, upd_ne (ne_of_none h2 nu)]
    exact h2
  · rw [upd_ne npr, upd_ne upu, up _ npl]; exact r.ins
  · rw [upd_ne (Ne.symm (r.neL i hi)), upd_ne (Ne.symm ul), upd_same]
  · rw [List.length_set, hl]
  · intro g' f' hg
    rw [List.getElem?_set] at hg
    split at hg
    · split at hg
      · injection hg with hg; omega
      · cases hg
    · exact Nat.le_trans (hf g' f' hg) (Nat.le_succ i)
  · rw [upd_ne (Ne.symm (r.neW i hi)), upd_ne uw, up _ (Ne.symm r.lW)]; exact r.lst
  · have tl : Tups H' (upd H' l (.lst (vnat (fr.set g (i + 1))))) := Tups.lst e
    have t2 := Tups.trans tl (Tups.same sm)
    have t3 : Tups H' (upd (upd (upd H' l (.lst (vnat (fr.set g (i + 1))))) u (.tup [.int (q.2 : Nat), ca i])) (rr i) (.lst [V.ref u])) := Tups.trans t2 (Tups.lst (by rw [upd_ne uri, up _ (r.neL i hi)]; exact e0))
    by_cases hji : j = i
    · subst hji
      refine ⟨_, upd_same, fun _ => ?_, fun h => absurd (Nat.lt_succ_self j) h⟩
      unfold Slot
      rw [ha]
      refine ⟨u, rfl, ?_⟩
      rw [upd_ne (Ne.symm uri), upd_same]
    · obtain ⟨vs, e1, q1, q2⟩ := r.row j hj
      have nj : rr j ≠ rr i := fun z => hji (r.inj j i hj hi z)
      have e2 : upd H' l (.lst (vnat (fr.set g (i + 1)))) (rr j) = some (.lst vs) := by rw [up _ (r.neL j hj)]; exact e1
      refine ⟨vs, by rw [upd_ne nj, upd_ne (ne_of_none e2 nu)]; exact e2, fun h => ?_, fun h => q2 (by omega)⟩
      exact (q1 (by omega)).mono t3
end

section
variable {P : Program} {w : World} {K : PySem.W.Frag} {mg : Str → Option Value} {base : Heap}
def rTup (K : PySem.W.Frag) : List V → Hp → VK → Prop := fun xs H Q => ∃ p ys, xs = [.ref p] ∧ ((SqL K H p ys ∧ ∀ l, H l = none → Q (.ref l) (upd H l (.tup ys))) ∨ (SqT K H p ys ∧ Q (.ref p) H))
def rSrt (K : PySem.W.Frag) : List V → Hp → VK → Prop := fun vs H Q => ∃ (a : Addr) (xs : List V), vs = [V.ref a] ∧ SqL K H a xs ∧ xs.length ≤ 1 ∧ ∀ p, H p = none → Q (.ref p) (upd H p (.lst xs))
theorem scRun : FnScope ["many", "arrivals", "slots", "ideal", "rows", "slot", "cells", "one", "gate", "cell", "leaves", "row"] ["many", "arrivals", "slots"] (defScope sRun) := ⟨rfl, rfl, rfl, by decide +kernel, rfl, by decide +kernel, by decide +kernel⟩
theorem no_leaving (l : Addr) : (fI l).lookup ("leaving" : Str) = none := fI_no l (by decide +kernel)
theorem ok_run {f C I fN fL : Addr} {fd fdN fdL : FuncData} (F : Fun K "ideal_run" "ideal_run" sRun f fd) (T : Txt K mg C I) (FN : Fun K "__init__" "Ideal.__init__" sIdeal fN fdN) (bN : Binds K fdN ["self", "many"] []) (mk : Mk K I fN)
    (FL : Fun K "leaving" "Ideal.leaving" sLeaving fL fdL) (bL : Binds K fdL ["self", "gate", "slot"] []) (mL : Meth K I "leaving" fL) : FnOk P w K mg base CX0 3 f fd ["many", "arrivals", "slots"] spRun := by
  have GN : FnOk P w K mg base CX0 1 fN fdN ["self", "many"] (spIdeal I) := ok_ideal FN T
  have GL : FnOk P w K mg base CX0 1 fL fdL ["self", "gate", "slot"] (spLeaving I) := ok_leaving FL T
  refine F.ok scRun (fun vs H Q E h => ?_) (fun cdv A outer s H vs Q E hr h => ?_)
  · obtain ⟨m, N, ca, arr, ar, al, am, rfl, _⟩ := h
    rfl
  · obtain ⟨m, N, ca, arr, ar, al, am, rfl, hm, hN, hn, hg, a, k⟩ := h
    refine ⟨_, pss_cons (ps_par (i := 3) (j := 4) rfl scRun.nd rfl rfl (by decide) rfl rfl
        (pa_cons (pe_make mk GN hr rfl T.mgI bN .nil pass0 (pa_cons (pv 0) pa_nil))
          (pa_cons (pe_lc (own := [("slot", 5)]) (g := gName 5) (tt := tYes) rfl scRun.nd (pi_range1 rfl T.range (pa_cons (pv 2) pa_nil)) (blkOk_by (own := [("slot", 5)]) (N := ["many", "arrivals", "slots", "ideal", "rows", "slot", "cells", "one", "gate", "cell", "leaves", "row"]) (sc := defScope sRun) (by decide +kernel))
            (fun _ _ _ _ _ => pg_name (i := 5) scRun.nd rfl (Or.inl rfl)) (fun _ _ _ _ _ => pts_nil) (fun _ _ _ _ _ => pe_lst pa_nil)) pa_nil)) rfl)
      (pss_cons (ps_for PassesOwn.never rfl (pi_enum rfl T.enumerate (pa_cons (pv 1) pa_nil)) (pg_tup rfl (pgs_cons (pg_name (i := 5) scRun.nd rfl (Or.inl rfl)) (pgs_cons (pg_name (i := 6) scRun.nd rfl (Or.inl rfl)) pgs_nil)))
        (pss_one (ps_for PassesOwn.never rfl (pi_list (pv 6)) (pg_tup rfl (pgs_cons (pg_name (i := 7) scRun.nd rfl (Or.inl rfl)) (pgs_cons (pg_name (i := 8) scRun.nd rfl (Or.inl rfl)) (pgs_cons (pg_name (i := 9) scRun.nd rfl (Or.inl rfl)) pgs_nil))))
          (pss_cons (ps_set (i := 10) scRun.nd rfl (Or.inl rfl) (pe_meth (pv 3) T.clI mL GL (hr.mono (by decide)) bL .nil pass0 (pa_cons (pv 8) (pa_cons (pv 5) pa_nil))))
          (pss_one (ps_if (pt_cmpR op_lt (pv 10) (pv 2) (nomark _))
            (pss_one (ps_expr (pe_bm PySem.F.plainAttrs_list PySem.F.slot_list_append PySem.F.type_list_append mt_append (pe_ix ix_list (pv 4) (pv 10) (fun _ _ => rfl)) (pa_cons (pe_tup (pa_cons (pv 8) (pa_cons (pv 9) pa_nil))) pa_nil)))) pss_nil))))))
      (pss_one (ps_ret (pe_callTy call_tuple_of (by rfl) T.tuple (by decide +kernel) (pa_cons
        (pe_lc (own := [("row", 11)]) (g := gName 11) (tt := tYes) rfl scRun.nd (pi_list (pv 4)) (blkOk_by (own := [("row", 11)]) (N := ["many", "arrivals", "slots", "ideal", "rows", "slot", "cells", "one", "gate", "cell", "leaves", "row"]) (sc := defScope sRun) (by decide +kernel))
            (fun _ _ _ _ _ => pg_name (i := 11) scRun.nd rfl (Or.inl rfl)) (fun _ _ _ _ _ => pts_nil) (fun _ _ _ _ _ => pe_callTy (T := "tuple") (r := rTup K) call_tuple_of (by rfl) T.tuple (by decide +kernel) (pa_cons (pe_callB (id := "sorted") (r := rSrt K) cr_sorted1 (by rfl) T.sorted (by decide +kernel) (pa_cons (pv 11) pa_nil)) pa_nil))) pa_nil))))), ?_⟩
    refine ⟨_, rfl, fun p dx np ndx hne => ⟨p, dx, m, rfl, hm, upd_same, fun H1 l e1 e2 e3 keep => ⟨rfl, ?_⟩⟩⟩
    have lp : l ≠ p := fun z => by rw [z, upd_same] at e3; cases e3
    have ld : l ≠ dx := fun z => by rw [z, upd_ne hne, upd_same] at e3; cases e3
    have hl0 : H l = none := by rw [upd_ne lp, upd_ne ld] at e3; exact e3
    have s1 : Same H H1 := fun b o e => keep b o (by rw [upd_ne (ne_of_none e np), upd_ne (ne_of_none e ndx)]; exact e) (ne_of_none e np)
    refine bares (i := 5) (jj := 2) hN rfl (by decide) fun H2 rw_ rr B => ?_
    have r0 : RunI I ca arr m N p dx l rw_ rr H 0 H2 := {
      same := s1.trans B.same
      ins := B.same _ _ e1
      free := ⟨List.replicate m 0, B.same _ _ e2, List.length_replicate .., fun g f e => by
        rw [List.getElem?_replicate] at e
        split at e
        · injection e with e; omega
        · cases e⟩
      lst := B.lst
      row := fun j hj => ⟨[], B.at_ j hj, fun h => absurd h (Nat.not_lt_zero j), fun _ => rfl⟩
      newL := hl0
      newR := fun j hj => s1.free (B.new j hj)
      inj := B.inj
      neL := fun j hj => Ne.symm (ne_of_none e2 (B.new j hj))
      neW := fun j hj => B.ne j hj
      lW := ne_of_none e2 B.newD }
    refine ⟨_, _, rfl, ?_⟩
    refine ⟨_, rfl, ar, _, rfl, SqL.of (r0.same _ _ a.lst), for_it (walk_enum (K := K) (a := ar) (xs := refs arr.length al))
      (fun i σ H' => ∃ (v5 v6 v7 v8 v9 v10 : Option V), σ = [some (.int m), some (.ref ar), some (.int N), some (.ref p), some (.ref rw_), v5, v6, v7, v8, v9, v10, none] ∧ RunI I ca arr m N p dx l rw_ rr H i H')
      ⟨none, none, none, none, none, none, rfl, r0⟩ (fun i σ H' _ h => ?_) ?_ ?_⟩
    · obtain ⟨_, _, _, _, _, _, _, r⟩ := h
      exact SqL.of (r.same _ _ a.lst)
    · rintro i x σ H' H'' hi ⟨v5, v6, v7, v8, v9, v10, rfl, r⟩ ⟨TT, x1, x2, rfl, nT, rfl, ex1, ex2⟩
      rw [refs_len] at hi
      obtain rfl : V.int (i : Nat) = x1 := Option.some.inj ex1
      obtain rfl : V.ref (al i) = x2 := Option.some.inj ((refs_at hi).symm.trans ex2)
      have rT := r.mono (same_new (o := .tup [.int (i : Nat), .ref (al i)]) nT)
      have hTT : upd H' TT (.tup [.int (i : Nat), .ref (al i)]) TT = some (.tup [.int (i : Nat), .ref (al i)]) := upd_same
      generalize upd H' TT (.tup [.int (i : Nat), .ref (al i)]) = H3 at rT hTT ⊢
      have a3 := a.mono rT.same
      have hiN : i < N := Nat.lt_of_lt_of_le hi hn
      obtain ⟨pr, hpr⟩ : ∃ pr, arr[i]? = some pr := ⟨arr[i], List.getElem?_eq_getElem hi⟩
      refine ⟨TT, _, rfl, SqT.of hTT, rfl, _, _, rfl, _, _, rfl, rfl, ?_⟩
      refine ⟨_, rfl, al i, rfl, ⟨_, SqL.of (a3.row i hi)⟩, for_list (K := K) (a := al i) (xs := [V.ref (am i)]) (fun j σ H' => ∃ (v7 v8 v9 v10 : Option V), σ = [some (.int m), some (.ref ar), some (.int N), some (.ref p), some (.ref rw_), some (.int (i : Nat)), some (.ref (al i)), v7, v8, v9, v10, none] ∧ RunI I ca arr m N p dx l rw_ rr H (i + j) H')
        ⟨v7, v8, v9, v10, rfl, rT⟩ (fun j σ H' _ h => ?_) ?_ ?_⟩
      · obtain ⟨_, _, _, _, _, r⟩ := h
        exact SqL.of ((a.mono r.same).row i hi)
      · rintro j x σ H4 hj ⟨v7, v8, v9, v10, rfl, r4⟩
        obtain rfl : j = 0 := by
          have := (List.getElem?_eq_some_iff.mp hj).1
          simpa using this
        obtain rfl : V.ref (am i) = x := by simpa using hj
        have a4 := a.mono r4.same
        have r4 : RunI I ca arr m N p dx l rw_ rr H i H4 := r4
        obtain ⟨fr, hfr, hfl, hfle⟩ := r4.free
        obtain ⟨fv, hfv⟩ : ∃ fv, fr[pr.2]? = some fv := ⟨fr[pr.2]'(by rw [hfl]; exact hg i pr hpr), List.getElem?_eq_getElem _⟩
        refine ⟨am i, _, rfl, SqT.of (a4.tup i pr hpr), rfl, _, _, rfl, _, _, rfl, _, _, rfl, rfl, ?_⟩
        refine ⟨_, rfl, _, dx, _, rfl, r4.ins, no_leaving _, _, rfl, _, rfl, p, dx, l, fr, pr.2, i, fv, rfl, r4.ins, hfr, hfv, hfle _ _ hfv, ?_⟩
        refine ⟨_, rfl, _, rfl, _, _, rfl, rfl, _, rfl, ?_⟩
        rw [decide_eq_true (by omega)]
        refine iteT ?_
        have hW5 : upd H4 l (.lst (vnat (fr.set pr.2 (i + 1)))) rw_ = some (.lst (refs N rr)) := by rw [upd_ne (Ne.symm r4.lW)]; exact r4.lst
        have hR5 : upd H4 l (.lst (vnat (fr.set pr.2 (i + 1)))) (rr i) = some (.lst []) := by
          obtain ⟨vs0, e0, _, q0⟩ := r4.row i hiN
          rw [upd_ne (r4.neL i hiN), e0, q0 (Nat.lt_irrefl i)]
        refine ⟨_, rfl, _, rfl, _, _, _, _, rfl, rfl, SqL.of hW5, atI_nat (refs_at hiN), .inl ⟨rfl, _, SqL.of hR5⟩, _, rfl, _, rfl, (by show (2 : Nat) ≤ sizeLine; decide), fun u nu => ?_⟩
        obtain ⟨H2, sm, rfl, hW2, hR2, rN⟩ := r4.more hfr hfl hfle hpr hiN nu
        refine ⟨_, _, _, rfl, rfl, hR2, by decide, ?_⟩
        exact ⟨_, _, _, _, rfl, rN⟩
      · rintro σ H' ⟨v7, v8, v9, v10, rfl, r⟩
        exact ⟨_, _, _, _, _, _, rfl, r⟩
    · rintro σ H' ⟨v5, v6, v7, v8, v9, v10, rfl, r⟩
      rw [refs_len] at r
      -- the rows are told as tuples
      refine ⟨_, rfl, rw_, rfl, ⟨_, SqL.of r.lst⟩, fun D nD => ?_⟩
      have sD : Same H' (upd H' D (.lst [])) := same_new nD
      have slot : ∀ k, k < N → ∃ vs, H' (rr k) = some (.lst vs) ∧ Slot ca arr H' k vs := fun k hk => by
        obtain ⟨vs, e, q1, q2⟩ := r.row k hk
        refine ⟨vs, e, ?_⟩
        by_cases h : k < arr.length
        · exact q1 h
        · have e2 : arr[k]? = none := List.getElem?_eq_none (by omega)
          unfold Slot
          rw [e2]
          exact q2 h
      refine lc_list (K := K) (a := rw_) (xs := refs N rr) (fun t H2 => Same H' H2 ∧ ∃ ts : List V, H2 D = some (.lst ts) ∧ ts.length = t ∧ ∀ k, k < t → ∃ q vs, ts[k]? = some (V.ref q) ∧ H2 q = some (.tup vs) ∧ Slot ca arr H2 k vs)
        ⟨sD, [], upd_same, rfl, fun k hk => absurd hk (Nat.not_lt_zero k)⟩ (fun t H2 _ h => SqL.of (h.1 _ _ r.lst)) ?_ ?_
      · rintro t x H2 ht ⟨s2, ts, hD, hts, hv⟩
        have htN : t < N := by
          have := (List.getElem?_eq_some_iff.mp ht).1
          rwa [refs_len] at this
        obtain rfl : V.ref (rr t) = x := Option.some.inj ((refs_at htN).symm.trans ht)
        obtain ⟨vs, e, sl⟩ := slot t htN
        refine ⟨wipe1, ?_⟩
        dsimp only [tYes]
        rw [if_pos rfl]
        refine ⟨_, rfl, rr t, vs, rfl, SqL.of (s2 _ _ e), sl.short, fun b nb => ?_⟩
        have sb : Same H2 (upd H2 b (.lst vs)) := same_new nb
        refine ⟨b, vs, rfl, .inl ⟨SqL.of upd_same, fun c nc => ?_⟩⟩
        have sc : Same (upd H2 b (.lst vs)) (upd (upd H2 b (.lst vs)) c (.tup vs)) := same_new nc
        have hc : upd (upd H2 b (.lst vs)) c (.tup vs) c = some (.tup vs) := upd_same
        have s3 := sb.trans sc
        have hcD : c ≠ D := fun z => by
          have := sb _ _ hD
          rw [← z] at this
          rw [nc] at this
          cases this
        generalize upd (upd H2 b (.lst vs)) c (.tup vs) = H3 at s3 hc ⊢
        have hD3 := s3 _ _ hD
        have tu : Tups H3 (upd H3 D (.lst (ts ++ [V.ref c]))) := Tups.lst hD3
        have tu2 : Tups H2 (upd H3 D (.lst (ts ++ [V.ref c]))) := Tups.trans (Tups.same s3) tu
        refine ⟨ts, hD3, by rw [hts]; exact Nat.lt_of_lt_of_le htN (Nat.le_trans hN (by decide)), fun b' o e' => ?_, ts ++ [V.ref c], upd_same, by rw [List.length_append, hts]; rfl, fun k hk => ?_⟩
        · rw [upd_ne (ne_of_none e' nD)]
          exact s3 _ _ (s2 _ _ e')
        · by_cases hkt : k = t
          · subst hkt
            refine ⟨c, vs, by rw [List.getElem?_append_right (by omega), hts, Nat.sub_self]; rfl, by rw [upd_ne hcD]; exact hc, sl.mono (Tups.trans (Tups.same s2) tu2)⟩
          · obtain ⟨q, vs', f1, f2, f3⟩ := hv k (by omega)
            exact ⟨q, vs', by rw [List.getElem?_append_left (by omega)]; exact f1, tu2 _ _ f2, f3.mono tu2⟩
      · rintro H2 ⟨s2, ts, hD, hts, hv⟩
        rw [refs_len] at hts hv
        refine ⟨D, ts, rfl, .inl ⟨SqL.of hD, fun q nq => ?_⟩⟩
        have sq : Same H2 (upd H2 q (.tup ts)) := same_new nq
        refine k _ q ts ((r.same.trans s2).trans sq) upd_same ⟨hts, fun k hk => ?_⟩
        obtain ⟨c, vs, f1, f2, f3⟩ := hv k hk
        exact ⟨c, vs, f1, sq _ _ f2, f3.mono (Tups.same sq)⟩
end
end K44

set_option Elab.async false
set_option maxRecDepth 100000
set_option maxHeartbeats 1000000
set_option pp.maxSteps 800
set_option linter.all false
namespace K44
open PySem PySem.Spec PyProof.Rows
/-! ### sum of a generator expression with two for clauses whose elements are all nought -/
abbrev gx (elt t0 i0 t1 i1 : Expr) (scope : Scope) (pos : Pos) : Expr := .GeneratorExp elt [⟨t0, i0, [], 0⟩, ⟨t1, i1, [], 0⟩] scope pos
theorem gx_out (elt t0 i0 t1 i1 : Expr) (scope : Scope) (pos : Pos) (it acc : Value) (env : Env) : compTurn (gx elt t0 i0 t1 i1 scope pos) 0 it acc env = (do
    standAt i0.pos
    match ← pyNext it with
    | none => pure (.done .next)
    | some v =>
      letOwnedTupleGo t0 it v; assign t0 env v
      let x ← eval i1 env
      standAt i1.pos
      let x ← foldedSetIterable i1 env x
      let it1 ← holding [x] (pyIter x)
      let _ ← runOwn (.compStart (gx elt t0 i0 t1 i1 scope pos) 1 it1 acc env) env
      again (.compLoop (gx elt t0 i0 t1 i1 scope pos) 0 it acc env)) := by rfl
theorem gx_in (elt t0 i0 t1 i1 : Expr) (scope : Scope) (pos : Pos) (it acc : Value) (env : Env) : compTurn (gx elt t0 i0 t1 i1 scope pos) 1 it acc env = (do
    standAt i1.pos
    match ← pyNext it with
    | none => pure (.done .next)
    | some v =>
      letOwnedTupleGo t1 it v; assign t1 env v
      (do let u ← eval elt env; standAt elt.pos; let _ ← yieldOut env u)
      again (.compLoop (gx elt t0 i0 t1 i1 scope pos) 1 it acc env)) := by rfl

/-- where the generator runs: B the heap's size ahead of it, S the sum's own list, g the generator, C its names, I the outer iterator over the list l at n places -/
structure Ctx2 where
  B : Addr
  S : Addr
  g : Addr
  C : Addr
  I : Addr
  l : Addr
  n : Nat
  href : Heap
  items : Array Value
  rs : Nat → Addr
  inn : Nat → Array Value
  rem : Nat → Nat
def Ctx2.Kept (c : Ctx2) (h h' : Heap) : Prop := ∀ b o, (b < c.B ∨ b = c.S ∨ b = c.g) → h.get? b = some o → h'.get? b = some o
def Ctx2.Since (c : Ctx2) (s₀ s : Shared) : Prop := ∃ h' tk, s = { s₀ with heap := h', toks := tk } ∧ c.Kept s₀.heap h'
def Ctx2.Y (c : Ctx2) : Protocol := fun _ s₀ v s kap => (∃ t, v = .int 0 t) ∧ c.Since s₀ s ∧
  ∀ s'' : Shared, (∀ b o, b ≠ c.S → s.heap.get? b = some o → s''.heap.get? b = some o) → (∃ o, s''.heap.get? c.S = some o) → kap (.send .none) s''
def Ctx2.R (c : Ctx2) : GenEnd := fun n s₀ r s₁ => r = .ok .next ∧ (n = 0 ∧ c.Since s₀ s₁)
structure Ctx2.Ok (c : Ctx2) : Prop where
  Il : c.B ≤ c.I
  Cl : c.B ≤ c.C
  Sl : c.B ≤ c.S
  gl : c.B ≤ c.g
  IC : c.I ≠ c.C
  IS : c.I ≠ c.S
  Ig : c.I ≠ c.g
  CS : c.C ≠ c.S
  Cg : c.C ≠ c.g
  Sg : c.S ≠ c.g
  size : c.items.size = c.n
  list : c.href.IsList c.l c.items
  ll : c.l < c.B
  rl : ∀ i, i < c.n → c.rs i < c.B
  at_ : ∀ i, i < c.n → c.items[i]? = some (.ref (c.rs i)) ∧ c.href.IsList (c.rs i) (c.inn i)
  rem0 : c.rem c.n = 0
  rem1 : ∀ i, i < c.n → c.rem i = (c.inn i).size + c.rem (i + 1)
structure Ctx2.Live (c : Ctx2) (i : Nat) (h : Heap) : Prop where
  it : h.IsListIter c.I c.l i
  base : ∀ b o, b < c.B → c.href.get? b = some o → h.get? b = some o
  ns : ∃ m, h.Ns c.C m
  s : ∃ o, h.get? c.S = some o
  g : ∃ o, h.get? c.g = some o
section
variable {c : Ctx2}
theorem Ctx2.Since.refl (s : Shared) : c.Since s s := ⟨s.heap, s.toks, rfl, fun _ _ _ e => e⟩
theorem Ctx2.Since.step {s₀ s : Shared} (x : c.Since s₀ s) {h' : Heap} {tk : Nat} (k : c.Kept s.heap h') : c.Since s₀ { s with heap := h', toks := tk } := by
  obtain ⟨h1, tk1, rfl, k1⟩ := x
  exact ⟨h', tk, rfl, fun b o hb e => k b o hb (k1 b o hb e)⟩
/-- all but one young record is kept -/
theorem Ctx2.kept_but {a : Addr} {h h' : Heap} (k : ∀ b o, b ≠ a → h.get? b = some o → h'.get? b = some o) (h1 : c.B ≤ a) (h2 : a ≠ c.S) (h3 : a ≠ c.g) : c.Kept h h' := fun b o hb e => k b o (by
  rcases hb with z | z | z
  · exact Nat.ne_of_lt (Nat.lt_of_lt_of_le z h1)
  · rw [z]; exact Ne.symm h2
  · rw [z]; exact Ne.symm h3) e
theorem Ctx2.kept_all {h h' : Heap} (k : ∀ b o, h.get? b = some o → h'.get? b = some o) : c.Kept h h' := fun b o _ e => k b o e
theorem Ctx2.Live.list {i : Nat} {h : Heap} (L : c.Live i h) (ok : c.Ok) : h.IsList c.l c.items := by
  obtain ⟨o, e, r⟩ := ok.list
  exact ⟨o, L.base _ _ ok.ll e, r⟩
theorem Ctx2.Live.inner {i j : Nat} {h : Heap} (L : c.Live i h) (ok : c.Ok) (hj : j < c.n) : h.IsList (c.rs j) (c.inn j) := by
  obtain ⟨o, e, r⟩ := (ok.at_ j hj).2
  exact ⟨o, L.base _ _ (ok.rl j hj) e, r⟩
/-- a record other than the iterator, the names and what is kept has changed -/
theorem Ctx2.Live.but {i : Nat} {a : Addr} {h h' : Heap} (L : c.Live i h) (k : ∀ b o, b ≠ a → h.get? b = some o → h'.get? b = some o) (h1 : c.B ≤ a) (h2 : a ≠ c.S) (h3 : a ≠ c.g) (h4 : a ≠ c.I) (h5 : a ≠ c.C) : c.Live i h' where
  it := L.it.at fun o e => k _ o (Ne.symm h4) e
  base := fun b o hb e => k b o (Nat.ne_of_lt (Nat.lt_of_lt_of_le hb h1)) (L.base b o hb e)
  ns := let ⟨m, hn⟩ := L.ns; ⟨m, hn.at' fun o e => k _ o (Ne.symm h5) e⟩
  s := let ⟨o, e⟩ := L.s; ⟨o, k _ o (Ne.symm h2) e⟩
  g := let ⟨o, e⟩ := L.g; ⟨o, k _ o (Ne.symm h3) e⟩
theorem Ctx2.Live.all {i : Nat} {h h' : Heap} (L : c.Live i h) (k : ∀ b o, h.get? b = some o → h'.get? b = some o) : c.Live i h' where
  it := L.it.at fun o e => k _ o e
  base := fun b o hb e => k b o (L.base b o hb e)
  ns := let ⟨m, hn⟩ := L.ns; ⟨m, hn.at' fun o e => k _ o e⟩
  s := let ⟨o, e⟩ := L.s; ⟨o, k _ o e⟩
  g := let ⟨o, e⟩ := L.g; ⟨o, k _ o e⟩
/-- the sum's list has been written meanwhile -/
theorem Ctx2.Live.slept {i : Nat} {h h' : Heap} (L : c.Live i h) (ok : c.Ok) (k : ∀ b o, b ≠ c.S → h.get? b = some o → h'.get? b = some o) (hS : ∃ o, h'.get? c.S = some o) : c.Live i h' where
  it := L.it.at fun o e => k _ o ok.IS e
  base := fun b o hb e => k b o (Nat.ne_of_lt (Nat.lt_of_lt_of_le hb ok.Sl)) (L.base b o hb e)
  ns := let ⟨m, hn⟩ := L.ns; ⟨m, hn.at' fun o e => k _ o ok.CS e⟩
  s := hS
  g := let ⟨o, e⟩ := L.g; ⟨o, k _ o (Ne.symm ok.Sg) e⟩
end
section
variable {prog : Program} {w : World} {A : Around} {c : Ctx2} {elt t0 i0 t1 i1 : Expr} {scope : Scope} {pos : Pos} {cenv : Env}
/-- the elements are nought: of the one name that the second clause binds; or there are none -/
def Ctx2.Elts (c : Ctx2) (prog : Program) (w : World) (cenv : Env) (elt t1 : Expr) : Prop :=
  (∃ (x : Str) (px : Pos), t1 = .Name x px ∧ cenv.kindOf x = some .local ∧ ∀ (A' : Around) (E' : Value → Shared → Prop) (i j : Nat) (v : Value) (s₂ : Shared) (m₂ : Str → Option Value), A'.handled = none → i < c.n → (c.inn i)[j]? = some v →
    s₂.heap.Ns c.C m₂ → m₂ x = some v → (∀ b o, b < c.B → c.href.get? b = some o → s₂.heap.get? b = some o) → wpAny (model prog w) A' (eval elt cenv) (fun y s₃ => (∃ t, y = .int 0 t) ∧ Keeps s₂ s₃) E' s₂) ∨
  ∀ i, i < c.n → c.inn i = #[]
theorem gx_seg_in (ok : c.Ok) (hh : A.handled = none) (hC : cenv.locals = c.C) (hk : cenv.scope.kind = .function) (hco : cenv.scope.isCoroutine = false) (HT : c.Elts prog w cenv elt t1)
    {i : Nat} (hi : i < c.n) {J : Addr} (hJ : c.B ≤ J) (JS : J ≠ c.S) (Jg : J ≠ c.g) (JI : J ≠ c.I) (JC : J ≠ c.C) {Kc : Result → Sem PySem.Fin} {l : List Value} {c1 : Code} {p : Pos}
    (hK : ∀ (s₀ s : Shared), c.Live (i + 1) s.heap → c.Since s₀ s → Seg (model prog w) A c.R c.Y (c.rem (i + 1)) s₀ c1 (Kc (.ok .next)) [] s) :
    ∀ (k j : Nat) (s₀ s : Shared), (c.inn i).size - j = k → j ≤ (c.inn i).size → c.Live (i + 1) s.heap → s.heap.IsListIter J (c.rs i) j → c.Since s₀ s →
      Seg (model prog w) A c.R c.Y (k + c.rem (i + 1)) s₀ (.compLoop (gx elt t0 i0 t1 i1 scope pos) 1 (.ref J) .none cenv) ((model prog w).den (.compLoop (gx elt t0 i0 t1 i1 scope pos) 1 (.ref J) .none cenv)) [.ret Kc none false l c1 p []] s := by
  have hh' : (A.over (.compLoop (gx elt t0 i0 t1 i1 scope pos) 1 (.ref J) .none cenv) [.ret Kc none false l c1 p []]).handled = none := hh
  have hrJ : c.rs i ≠ J := fun e => absurd (ok.rl i hi) (Nat.not_lt.mpr (by rw [e]; exact hJ))
  have W := Walks.list (prog := prog) (w := w) hh' J (c.rs i) hrJ (c.inn i)
  intro k
  induction k with
  | zero =>
    intro j s₀ s hk0 hj L hit hs
    have ej : j = (c.inn i).size := by omega
    subst ej
    show Seg _ A _ _ _ s₀ _ ((compTurn (gx elt t0 i0 t1 i1 scope pos) 1 (.ref J) .none cenv).onRaise _) _ s
    rw [gx_in, Sem.onRaise_eq_wrap, Nat.zero_add]
    refine seg_bind_wrap (wpAny_standAt (seg_bind_wrap (W.done s _ _ ⟨hit, L.inner ok hi⟩ fun h' tk hk' => ?_)))
    have kb : ∀ b o, b ≠ J → s.heap.get? b = some o → h'.get? b = some o := fun b o hb e => hk' b o (by simpa using hb) e
    exact seg_leaf (.ok .next) (hK s₀ _ (L.but kb hJ JS Jg JI JC) (hs.step (Ctx2.kept_but kb hJ JS Jg)))
  | succ k ih =>
    intro j s₀ s hk0 hj L hit hs
    have hlt : j < (c.inn i).size := by omega
    show Seg _ A _ _ _ s₀ _ ((compTurn (gx elt t0 i0 t1 i1 scope pos) 1 (.ref J) .none cenv).onRaise _) _ s
    rw [gx_in, Sem.onRaise_eq_wrap]
    refine seg_bind_wrap (wpAny_standAt (seg_bind_wrap (W.item j s _ _ hlt ⟨hit, L.inner ok hi⟩ fun v h₁ tk₁ hv hst₁ hk₁ => ?_)))
    have kb : ∀ b o, b ≠ J → s.heap.get? b = some o → h₁.get? b = some o := fun b o hb e => hk₁ b o (by simpa using hb) e
    have L1 := L.but kb hJ JS Jg JI JC
    have s1 := hs.step (tk := tk₁) (Ctx2.kept_but kb hJ JS Jg)
    rcases HT with ⟨x, px, rfl, hx, HE⟩ | HN
    case inr => rw [HN i hi] at hlt; exact absurd hlt (Nat.not_lt_zero j)
    obtain ⟨m, hm⟩ := L1.ns
    refine seg_bind_wrap (wpAny_of_eq (rfl : letOwnedTupleGo (.Name x px) (.ref J) v = pure ()) ?_)
    refine seg_bind_wrap (wpAny_assign_Name (wpAny_storeName_local hx (by rw [hC]; exact hm) (fun h₂ hn₂ hs₂ => ?_) (by rw [hk]; rfl)))
    rw [hC] at hn₂ hs₂
    have kb2 : ∀ b o, b ≠ c.C → h₁.get? b = some o → h₂.get? b = some o := fun b o hb e => hs₂.extBut b o hb e
    have L2 : c.Live (i + 1) h₂ := {
      it := L1.it.at fun o e => kb2 _ o ok.IC e
      base := fun b o hb e => kb2 b o (Nat.ne_of_lt (Nat.lt_of_lt_of_le hb ok.Cl)) (L1.base b o hb e)
      ns := ⟨_, hn₂⟩
      s := let ⟨o, e⟩ := L1.s; ⟨o, kb2 _ o (Ne.symm ok.CS) e⟩
      g := let ⟨o, e⟩ := L1.g; ⟨o, kb2 _ o (Ne.symm ok.Cg) e⟩ }
    have s2 := s1.step (tk := tk₁ + 1) (Ctx2.kept_but kb2 ok.Cl ok.CS ok.Cg)
    have it2 : h₂.IsListIter J (c.rs i) (j + 1) := hst₁.1.at fun o e => kb2 _ o JC e
    rw [show k + 1 + c.rem (i + 1) = (k + c.rem (i + 1)) + 1 by omega]
    have hy : ∀ v, yieldOut cenv v = yieldValue v := fun v => by simp only [yieldOut, hco, Bool.false_eq_true, if_false]
    simp only [hy]
    rw [Sem.bind_eq_wrap', Sem.bind_eq_wrap', Sem.wrap_wrap, Sem.wrap_wrap]
    refine seg_wrap (wpAny_mono (HE _ _ i j v _ _ hh' hi hv hn₂ (by simp) L2.base) (fun y s₄ h₄ => ?_) fun _ _ e => e)
    obtain ⟨hy0, h₄, tk₄, rfl, hk₄⟩ := h₄
    refine seg_at (seg_yield rfl rfl rfl ⟨hy0, s2.step (tk := tk₄) (Ctx2.kept_all hk₄), fun s'' hal hS => ?_⟩)
    have L4 := (L2.all hk₄).slept ok hal hS
    exact seg_again rfl (ih (j + 1) s'' s'' (by omega) hlt L4 ((it2.at fun o e => hk₄ _ o e).at fun o e => hal _ o JS e) (Ctx2.Since.refl _))
/-- the second clause's loop begins -/
theorem gx_seg_in0 (ok : c.Ok) (hh : A.handled = none) {i : Nat} (hi : i < c.n) {J : Addr} (hJ : c.B ≤ J) {fs : List Frame} {n : Nat} (hfs : (A.over (.compStart (gx elt t0 i0 t1 i1 scope pos) 1 (.ref J) .none cenv) fs).handled = none)
    (s₀ s : Shared) (L : c.Live (i + 1) s.heap) (hit : s.heap.IsListIter J (c.rs i) 0)
    (loop : Seg (model prog w) A c.R c.Y n s₀ (.compLoop (gx elt t0 i0 t1 i1 scope pos) 1 (.ref J) .none cenv) ((model prog w).den (.compLoop (gx elt t0 i0 t1 i1 scope pos) 1 (.ref J) .none cenv)) fs s) :
    Seg (model prog w) A c.R c.Y n s₀ (.compStart (gx elt t0 i0 t1 i1 scope pos) 1 (.ref J) .none cenv) ((model prog w).den (.compStart (gx elt t0 i0 t1 i1 scope pos) 1 (.ref J) .none cenv)) fs s := by
  have hrJ : c.rs i ≠ J := fun e => absurd (ok.rl i hi) (Nat.not_lt.mpr (by rw [e]; exact hJ))
  have W := Walks.list (prog := prog) (w := w) hfs J (c.rs i) hrJ (c.inn i)
  show Seg _ A _ _ _ s₀ _ ((compStart (gx elt t0 i0 t1 i1 scope pos) 1 (.ref J) .none cenv).onRaise _) _ s
  unfold compStart
  rw [Sem.onRaise_eq_wrap]
  show Seg _ A _ _ _ s₀ _ ((ask >>= _).wrap _ _ _ _) _ s
  refine seg_bind_wrap (wpAny_askSetting ?_)
  split
  · exact seg_again rfl loop
  · refine seg_bind_wrap (wpAny_rule ?_)
    show Seg _ A _ _ _ s₀ _ ((standAt i1.pos >>= _).wrap _ _ _ _) _ s
    exact seg_bind_wrap (wpAny_standAt (seg_bind_wrap (W.self 0 s _ _ ⟨hit, L.inner ok hi⟩ (seg_again rfl loop))))
theorem gx_seg_out {x0 : Str} {px0 px1 : Pos} (ok : c.Ok) (hh : A.handled = none) (hC : cenv.locals = c.C) (hk : cenv.scope.kind = .function) (hco : cenv.scope.isCoroutine = false) (HT : c.Elts prog w cenv elt t1)
    (hx0 : cenv.kindOf x0 = some .local) (hd0 : (x0 == ("__debug__" : Str)) = false) :
    ∀ (k i : Nat) (s₀ s : Shared), c.n - i = k → i ≤ c.n → c.Live i s.heap → c.Since s₀ s →
      Seg (model prog w) A c.R c.Y (c.rem i) s₀ (.compLoop (gx elt (.Name x0 px0) i0 t1 (.Name x0 px1) scope pos) 0 (.ref c.I) .none cenv)
        ((model prog w).den (.compLoop (gx elt (.Name x0 px0) i0 t1 (.Name x0 px1) scope pos) 0 (.ref c.I) .none cenv)) [] s := by
  have hh' : (A.over (.compLoop (gx elt (.Name x0 px0) i0 t1 (.Name x0 px1) scope pos) 0 (.ref c.I) .none cenv) []).handled = none := hh
  have hlI : c.l ≠ c.I := fun e => absurd ok.ll (Nat.not_lt.mpr (by rw [e]; exact ok.Il))
  have W := Walks.list (prog := prog) (w := w) hh' c.I c.l hlI c.items
  intro k
  induction k with
  | zero =>
    intro i s₀ s hk0 hi L hs
    have ei : i = c.items.size := by rw [ok.size]; omega
    have er : c.rem i = 0 := by rw [ei, ok.size]; exact ok.rem0
    rw [er]
    show Seg _ A _ _ _ s₀ _ ((compTurn (gx elt (.Name x0 px0) i0 t1 (.Name x0 px1) scope pos) 0 (.ref c.I) .none cenv).onRaise _) _ s
    rw [gx_out, Sem.onRaise_eq_wrap]
    subst ei
    refine seg_bind_wrap (wpAny_standAt (seg_bind_wrap (W.done s _ _ ⟨L.it, L.list ok⟩ fun h' tk hk' => ?_)))
    have kb : ∀ b o, b ≠ c.I → s.heap.get? b = some o → h'.get? b = some o := fun b o hb e => hk' b o (by simpa using hb) e
    exact seg_end (.ok .next) ⟨rfl, rfl, hs.step (Ctx2.kept_but kb ok.Il ok.IS ok.Ig)⟩
  | succ k ih =>
    intro i s₀ s hk0 hi L hs
    have hlt : i < c.n := by omega
    show Seg _ A _ _ _ s₀ _ ((compTurn (gx elt (.Name x0 px0) i0 t1 (.Name x0 px1) scope pos) 0 (.ref c.I) .none cenv).onRaise _) _ s
    rw [gx_out, Sem.onRaise_eq_wrap]
    refine seg_bind_wrap (wpAny_standAt (seg_bind_wrap (W.item i s _ _ (by rw [ok.size]; exact hlt) ⟨L.it, L.list ok⟩ fun v h₁ tk₁ hv hst₁ hk₁ => ?_)))
    have ev : v = .ref (c.rs i) := Option.some.inj (hv.symm.trans (ok.at_ i hlt).1)
    subst ev
    have kb : ∀ b o, b ≠ c.I → s.heap.get? b = some o → h₁.get? b = some o := fun b o hb e => hk₁ b o (by simpa using hb) e
    have L1 : c.Live (i + 1) h₁ := {
      it := hst₁.1
      base := fun b o hb e => kb b o (Nat.ne_of_lt (Nat.lt_of_lt_of_le hb ok.Il)) (L.base b o hb e)
      ns := let ⟨m, hn⟩ := L.ns; ⟨m, hn.at' fun o e => kb _ o (Ne.symm ok.IC) e⟩
      s := let ⟨o, e⟩ := L.s; ⟨o, kb _ o (Ne.symm ok.IS) e⟩
      g := let ⟨o, e⟩ := L.g; ⟨o, kb _ o (Ne.symm ok.Ig) e⟩ }
    have s1 := hs.step (tk := tk₁) (Ctx2.kept_but kb ok.Il ok.IS ok.Ig)
    obtain ⟨m, hm⟩ := L1.ns
    refine seg_bind_wrap (wpAny_of_eq (rfl : letOwnedTupleGo (.Name x0 px0) (.ref c.I) (.ref (c.rs i)) = pure ()) ?_)
    refine seg_bind_wrap (wpAny_assign_Name (wpAny_storeName_local hx0 (by rw [hC]; exact hm) (fun h₂ hn₂ hs₂ => ?_) (by rw [hk]; rfl)))
    rw [hC] at hn₂ hs₂
    have kb2 : ∀ b o, b ≠ c.C → h₁.get? b = some o → h₂.get? b = some o := fun b o hb e => hs₂.extBut b o hb e
    have L2 : c.Live (i + 1) h₂ := {
      it := L1.it.at fun o e => kb2 _ o ok.IC e
      base := fun b o hb e => kb2 b o (Nat.ne_of_lt (Nat.lt_of_lt_of_le hb ok.Cl)) (L1.base b o hb e)
      ns := ⟨_, hn₂⟩
      s := let ⟨o, e⟩ := L1.s; ⟨o, kb2 _ o (Ne.symm ok.CS) e⟩
      g := let ⟨o, e⟩ := L1.g; ⟨o, kb2 _ o (Ne.symm ok.Cg) e⟩ }
    refine seg_bind_wrap (wpAny_Name (wpAny_loadName_local hk hx0 (by rw [hC]; exact hn₂) (v := .ref (c.rs i)) (by simp) ?_) hd0)
    refine seg_bind_wrap (wpAny_standAt (seg_bind_wrap (wpAny_of_eq (rfl : foldedSetIterable (.Name x0 px1) cenv (.ref (c.rs i)) = pure (.ref (c.rs i))) ?_)))
    refine seg_bind_wrap (wpAny_holding (wpAny_pyIter_list (L2.inner ok hlt) ?_))
    have lS : c.S < h₂.objs.size := let ⟨o, e⟩ := L2.s; Heap.lt_size e
    have lg : c.g < h₂.objs.size := let ⟨o, e⟩ := L2.g; Heap.lt_size e
    have lI : c.I < h₂.objs.size := let ⟨o, e, _⟩ := L2.it; Heap.lt_size e
    have lC : c.C < h₂.objs.size := hn₂.lt
    have JB : c.B ≤ h₂.objs.size := Nat.le_trans ok.Sl (Nat.le_of_lt lS)
    have kp : ∀ (o : Obj) (b : Addr) (u : Obj), h₂.get? b = some u → (h₂.push o).get? b = some u := fun o b u e => Heap.get?_push_of_some _ e
    have s3 : ∀ (o : Obj), c.Since s₀ { s with heap := h₂.push o, toks := tk₁ + 1 } := fun o => (s1.step (tk := tk₁ + 1) (Ctx2.kept_but kb2 ok.Cl ok.CS ok.Cg)).step (tk := tk₁ + 1) (Ctx2.kept_all (kp o))
    refine seg_call (fun p => ?_)
    refine gx_seg_in0 ok hh hlt JB ?hf _ _ (L2.all (kp _)) ⟨_, Heap.get?_push_size _ rfl, rfl, rfl⟩ ?_
    case hf => exact hh
    rw [ok.rem1 i hlt]
    have hsz : (c.inn i).size - 0 = (c.inn i).size := Nat.sub_zero _
    refine gx_seg_in ok hh hC hk hco HT hlt JB (Nat.ne_of_gt lS) (Nat.ne_of_gt lg) (Nat.ne_of_gt lI) (Nat.ne_of_gt lC) (fun s₀' s' L' S' => ?_) _ 0 _ _ hsz (Nat.zero_le _) (L2.all (kp _)) ⟨_, Heap.get?_push_size _ rfl, rfl, rfl⟩ (s3 _)
    exact seg_again rfl (ih (i + 1) s₀' s' (by omega) hlt L' S')
theorem gx_seg_start {x0 : Str} {px0 px1 : Pos} (ok : c.Ok) (hh : A.handled = none) (hC : cenv.locals = c.C) (hk : cenv.scope.kind = .function) (hco : cenv.scope.isCoroutine = false) (HT : c.Elts prog w cenv elt t1)
    (hx0 : cenv.kindOf x0 = some .local) (hd0 : (x0 == ("__debug__" : Str)) = false) (s : Shared) (L : c.Live 0 s.heap) :
      Seg (model prog w) A c.R c.Y (c.rem 0) s (.compStart (gx elt (.Name x0 px0) i0 t1 (.Name x0 px1) scope pos) 0 (.ref c.I) .none cenv)
        ((model prog w).den (.compStart (gx elt (.Name x0 px0) i0 t1 (.Name x0 px1) scope pos) 0 (.ref c.I) .none cenv)) [] s := by
  have hh' : (A.over (.compStart (gx elt (.Name x0 px0) i0 t1 (.Name x0 px1) scope pos) 0 (.ref c.I) .none cenv) []).handled = none := hh
  have hlI : c.l ≠ c.I := fun e => absurd ok.ll (Nat.not_lt.mpr (by rw [e]; exact ok.Il))
  have W := Walks.list (prog := prog) (w := w) hh' c.I c.l hlI c.items
  have loop := gx_seg_out (i0 := i0) (scope := scope) (pos := pos) (px0 := px0) (px1 := px1) ok hh hC hk hco HT hx0 hd0 c.n 0 s s (Nat.sub_zero _) (Nat.zero_le _) L (Ctx2.Since.refl _)
  show Seg _ A _ _ _ s _ ((compStart (gx elt (.Name x0 px0) i0 t1 (.Name x0 px1) scope pos) 0 (.ref c.I) .none cenv).onRaise _) _ s
  unfold compStart
  rw [Sem.onRaise_eq_wrap]
  show Seg _ A _ _ _ s _ ((ask >>= _).wrap _ _ _ _) _ s
  refine seg_bind_wrap (wpAny_askSetting ?_)
  split
  · exact seg_again rfl loop
  · refine seg_bind_wrap (wpAny_rule ?_)
    show Seg _ A _ _ _ s _ ((standAt i0.pos >>= _).wrap _ _ _ _) _ s
    exact seg_bind_wrap (wpAny_standAt (seg_bind_wrap (W.self 0 s _ _ ⟨L.it, L.list ok⟩ (seg_again rfl loop))))
/-- the generator, n items ahead -/
structure Ctx2.Gen (c : Ctx2) (prog : Program) (w : World) (A : Around) (gi n : Nat) (s : Shared) : Prop where
  isg : s.heap.IsGen c.g gi
  lim : s.heap.NoLimit
  run : ∃ gs, s.gens[gi]? = some gs ∧ ∀ s'' : Shared, (∀ b o, b ≠ c.S → s.heap.get? b = some o → s''.heap.get? b = some o) → (∃ o, s''.heap.get? c.S = some o) → gs.Goes (model prog w) A c.R c.Y n (.send .none) s''
structure Ctx2.Moves (c : Ctx2) (gi : Nat) (s s' : Shared) : Prop where
  kept : c.Kept s.heap s'.heap
  gens : GenOnlyQ gi s.gens s'.gens
  os : s'.os = s.os
theorem Ctx2.Moves.trans {c : Ctx2} {gi : Nat} {s s' s'' : Shared} (a : c.Moves gi s s') (b : c.Moves gi s' s'') : c.Moves gi s s'' := ⟨fun x o hb e => b.kept x o hb (a.kept x o hb e), a.gens.trans b.gens, b.os.trans a.os⟩
theorem gx_lim (ok : c.Ok) (hcs : cStatics < c.B) {h h' : Heap} (k : c.Kept h h') (l : h.NoLimit) : h'.NoLimit := by
  obtain ⟨mc, hn, r⟩ := l
  exact ⟨mc, hn.at' fun o e => k cStatics o (.inl hcs) e, r⟩
theorem gx_item {E : Value → Shared → Prop} {Q : Option Value → Shared → Prop} (ok : c.Ok) (hcs : cStatics < c.B) (hh : A.handled = none) (hroom : A.depth < recursionLimit) {gi n : Nat} {s : Shared} (G : c.Gen prog w A.in1 gi (n + 1) s) (hS : ∃ o, s.heap.get? c.S = some o)
    (hQ : ∀ t s', c.Gen prog w A.in1 gi n s' → c.Moves gi s s' → Q (some (.int 0 t)) s') : wpAny (model prog w) A (pyNext (.ref c.g)) Q E s := by
  obtain ⟨gs, hgs, hgo⟩ := G.run
  refine wpAny_pyNext_genexpQ (P := fun n s₀ s₁ => n = 0 ∧ c.Since s₀ s₁) hh G.lim hroom G.isg hgs (hgo _ (fun _ _ _ e => e) hS) (fun v s₁ gs' hb hv => ?_) (fun s₁ hp h' hk => absurd hp.1 (Nat.succ_ne_zero n))
  obtain ⟨⟨t, rfl⟩, ⟨h₁, tk₁, rfl, hk₁⟩, hkap⟩ := hv
  refine hQ t _ ⟨?_, gx_lim ok hcs hk₁ G.lim, gs', setGen_self (gs := .running) (setGen_self hgs), fun s'' hal hS2 => ?_⟩ ⟨hk₁, GenOnlyQ.of ((GenOnly.setGen s gi .running).trans (GenOnly.setGen _ gi gs')) (setGen_self (gs := .running) (setGen_self hgs)) hb, rfl⟩
  · obtain ⟨o, nm, qn, ho, r⟩ := G.isg
    exact ⟨o, nm, qn, hk₁ _ o (.inr (.inr rfl)) ho, r⟩
  · exact hkap s'' hal hS2
theorem gx_done {E : Value → Shared → Prop} {Q : Option Value → Shared → Prop} (ok : c.Ok) (hcs : cStatics < c.B) (hh : A.handled = none) (hroom : A.depth < recursionLimit) {gi : Nat} {s : Shared} (G : c.Gen prog w A.in1 gi 0 s) (hS : ∃ o, s.heap.get? c.S = some o)
    (hQ : ∀ s', c.Moves gi s s' → Q none s') : wpAny (model prog w) A (pyNext (.ref c.g)) Q E s := by
  obtain ⟨gs, hgs, hgo⟩ := G.run
  refine wpAny_pyNext_genexpQ (P := fun n s₀ s₁ => n = 0 ∧ c.Since s₀ s₁) hh G.lim hroom G.isg hgs (hgo _ (fun _ _ _ e => e) hS) (fun v s₁ gs' hb hv => ?_) (fun s₁ hp h' hk => ?_)
  · obtain ⟨_, ⟨h₁, tk₁, rfl, hk₁⟩, hkap⟩ := hv
    obtain ⟨o, e⟩ := hS
    exact False.elim (hkap _ (fun _ _ _ e => e) ⟨o, hk₁ _ o (.inr (.inl rfl)) e⟩)
  · obtain ⟨_, h₁, tk₁, rfl, hk₁⟩ := hp
    exact hQ _ ⟨fun b o hb e => hk b o (hk₁ b o hb e), GenOnlyQ.of ((GenOnly.setGen s gi .running).trans (GenOnly.setGen _ gi .finished)) (setGen_self (gs := .running) (setGen_self hgs)) rfl, rfl⟩
/-- all that stood ahead of the generator stands -/
structure Ctx2.Ends (c : Ctx2) (gi : Nat) (s s' : Shared) : Prop where
  kept : ∀ b o, b < c.B → s.heap.get? b = some o → s'.heap.get? b = some o
  gens : GenOnlyQ gi s.gens s'.gens
  os : s'.os = s.os
theorem gx_sum_loop {R : Result → Shared → Prop} (ok : c.Ok) (hcs : cStatics < c.B) (hh : A.handled = none) (hroom : A.in1.depth < recursionLimit) {gi : Nat} : ∀ (n : Nat) (s : Shared) (tA : Tok) (e : Nat), c.Gen prog w A.in1.in1 gi n s →
    s.heap.get? c.S = some { cls := .type "list", dict := none, data := .seq #[.int 0 tA] e, slots := #[] } → (∀ s' t', c.Ends gi s s' → R (.ok (.ret (.int 0 t'))) s') →
    codeAny (model prog w) A (.builtin "sum.loop" ⟨[.ref c.g, .ref c.S, rawInt 0, rawInt 0], []⟩) R s := by
  have hh1 : A.in1.handled = none := hh
  intro n
  induction n with
  | zero =>
    intro s tA e G hS hR
    refine codeAny_builtin F.entry_sum_loop ?_
    rw [Around.under_plainId F.plain_sum_loop _]
    refine wpAny_bind (m := seqItems? (.ref c.S)) (wpAny_seqItems hS rfl ?_)
    refine wpAny_bind (m := tryCatch (pyNext (.ref c.g)) _) (wpAny_tryCatch (gx_done ok hcs hh1 hroom G ⟨_, hS⟩ fun s' hm => ?_))
    exact wpAny_pure (hR s' tA ⟨fun b o hb e => hm.kept b o (.inl hb) e, hm.gens, hm.os⟩)
  | succ n ih =>
    intro s tA e G hS hR
    refine codeAny_builtin F.entry_sum_loop ?_
    rw [Around.under_plainId F.plain_sum_loop _]
    refine wpAny_bind (m := seqItems? (.ref c.S)) (wpAny_seqItems hS rfl ?_)
    refine wpAny_bind (m := tryCatch (pyNext (.ref c.g)) _) (wpAny_tryCatch (gx_item ok hcs hh1 hroom G ⟨_, hS⟩ fun t s' G' hm => ?_))
    have hS' := hm.kept _ _ (.inr (.inl rfl)) hS
    refine wpAny_bind (m := mkInt (0 + 0)) (wpAny_mkInt ?_)
    refine wpAny_bind (m := updateSeq c.S _) (wpAny_updateSeq hS' rfl (wpAny_pure ⟨plainId_quiet F.plain_sum_loop _, ?_⟩))
    have kb : ∀ (b : Addr) (o : Obj) (f : Obj → Obj), b ≠ c.S → s'.heap.get? b = some o → (s'.heap.update c.S f).get? b = some o := fun b o f hb q => (Heap.get?_update_other _ _ (Ne.symm hb)).trans q
    refine ih _ s'.toks _ ?_ (Heap.get?_update_self _ hS' rfl) fun s'' t' hE => ?_
    · obtain ⟨gs, hgs, hgo⟩ := G'.run
      refine ⟨?_, ?_, gs, hgs, fun s3 hal hS3 => hgo s3 (fun b o hb q => hal b o hb (kb b o _ hb q)) hS3⟩
      · obtain ⟨o, nm, qn, ho, r⟩ := G'.isg
        exact ⟨o, nm, qn, kb _ o _ (Ne.symm ok.Sg) ho, r⟩
      · obtain ⟨mc, hn, r⟩ := G'.lim
        exact ⟨mc, hn.at' fun o q => kb cStatics o _ (Nat.ne_of_lt (Nat.lt_of_lt_of_le hcs ok.Sl)) q, r⟩
    · refine hR s'' t' ⟨fun b o hb q => hE.kept b o hb (kb b o _ (Nat.ne_of_lt (Nat.lt_of_lt_of_le hb ok.Sl)) (hm.kept b o (.inl hb) q)), hm.gens.trans hE.gens, hE.os.trans hm.os⟩
end
end K44

set_option Elab.async false
set_option maxRecDepth 100000
set_option maxHeartbeats 1000000
set_option pp.maxSteps 800
set_option linter.all false
namespace K44
open PySem PySem.Spec PyProof.Rows
/-! ### making it -/
theorem eval_gx (elt t0 t1 i1 o : Expr) (a : Str) (ap : Pos) (scope : Scope) (pos : Pos) (env : Env) (hco : scope.isCoroutine = false) :
    eval (gx elt t0 (.Attribute o a ap) t1 i1 scope pos) env = (do
      let x ← eval (.Attribute o a ap) env
      standAt (Expr.Attribute o a ap).pos
      let x ← (pure x : Sem Value)
      let it ← holding [x] (pyIter x)
      enterFrame
      let cl ← closureFor scope env
      let code ← genexprCode env pos (env.qual ++ "<genexpr>") scope
      let bi ← builtinsFor env.globals env.builtins
      let cenv ← newFunctionEnv scope env.globals cl [(".0", it)] (env.qual ++ "<genexpr>.") none code none bi
      newGenerator (.compStart (gx elt t0 (.Attribute o a ap) t1 i1 scope pos) 0 it .none cenv) "<genexpr>" (env.qual ++ "<genexpr>")) := by
  rw [arm_eval_GeneratorExp]
  simp only [hco, Bool.false_eq_true, if_false]
  rfl
section
variable {M : Model} {A : Around} {E : Value → Shared → Prop} {s : Shared}
theorem gx_make {env : Env} {elt t0 t1 i1 o : Expr} {a : Str} {ap : Pos} {scope : Scope} {cl : List (Str × Addr)} {pos : Pos} {Q : Value → Shared → Prop}
    (hco : scope.isCoroutine = false) (hclos : closureFor scope env = pure cl) (hcell : ∀ y ∈ scope.names, y.2 ≠ .cell) (h0 : scope.names.lookup (".0" : Str) = some NameKind.local) (hkind : scope.kind = .function)
    (hroom : A.depth < recursionLimit)
    (h : wpAny M A (eval (.Attribute o a ap) env) (fun xv s₁ => wpAny M A (pyIter xv) (fun it s₂ => s₂.heap.NoLimit ∧
      wpAny M A (genexprCode env pos (env.qual ++ "<genexpr>") scope) (fun code s₃ => wpAny M A (builtinsFor env.globals env.builtins) (fun bi s₄ =>
        ∀ h', h'.Ns s₄.heap.objs.size (fun y => if y = ".0" then some it else none) → Heap.SameBut s₄.heap.objs.size (s₄.heap.push { cls := .type "frame", data := .dict #[] }) h' →
          Q (.ref h'.objs.size) { s₄ with
            gens := s₄.gens.push (.fresh (.compStart (gx elt t0 (.Attribute o a ap) t1 i1 scope pos) 0 it .none (genEnv scope cl s₄.heap.objs.size code bi env))),
            toks := s₄.toks + 1 + 1 + 1,
            heap := h'.push { cls := .type "generator", data := .fields #[.int s₄.gens.size 0, .str "<genexpr>" (s₄.toks + 1), .str (env.qual ++ "<genexpr>") (s₄.toks + 1 + 1)] } }) E s₃) E s₂) E s₁) E s) :
    wpAny M A (eval (gx elt t0 (.Attribute o a ap) t1 i1 scope pos) env) Q E s := by
  rw [eval_gx _ _ _ _ _ _ _ _ _ _ hco, hclos]
  refine wpAny_bind (wpAny_mono h (fun xv s₁ h₁ => ?_) fun _ _ e => e)
  refine wpAny_bind (wpAny_standAt ?_)
  refine wpAny_bind (wpAny_pure ?_)
  refine wpAny_bind (wpAny_holding (wpAny_mono h₁ (fun it s₂ h₂ => ?_) fun _ _ e => e))
  refine wpAny_bind (wpAny_enterFrame h₂.1 hroom ?_)
  refine wpAny_bind (wpAny_pure ?_)
  refine wpAny_bind (wpAny_mono h₂.2 (fun code s₃ h₃ => ?_) fun _ _ e => e)
  refine wpAny_bind (wpAny_mono h₃ (fun bi s₄ h₄ => ?_) fun _ _ e => e)
  have hbinds : ∀ y ∈ ([((".0" : Str), it)] : List (Str × Value)), scope.names.lookup y.1 = some NameKind.local := by
    intro y hy
    rcases List.mem_cons.mp hy with rfl | hy
    · exact h0
    · cases hy
  refine wpAny_bind (wpAny_newFunctionEnv hcell hbinds (fun h' hn' hs' => ?_) hkind)
  have e : (fun y : Str => ([((".0" : Str), it)] : List (Str × Value)).reverse.lookup y) = fun y : Str => if y = (".0" : Str) then some it else none := by
    funext y
    by_cases hy : y = ".0"
    · subst hy; simp
    · have : (y == (".0" : Str)) = false := by simpa using hy
      simp [List.lookup, this, hy]
  rw [e] at hn'
  simp only [newGenerator, newFields]
  refine wpAny_bind (wpAny_newGen (wpAny_bind (wpAny_mkText (wpAny_bind (wpAny_mkText (wpAny_newObj_type ?_ (by size_fits)))))))
  exact h₄ h' hn' hs'
end
/-! ### sum of it -/
section
variable {prog : Program} {w : World} {A : Around} {E : Value → Shared → Prop} {s : Shared}
theorem call_sum_gx {gi : Nat} {a : Addr} {Q : Value → Shared → Prop} (c : Ctx2) (ok : c.Ok) (hS : c.S = s.heap.objs.size) (hg : c.g = a) (hcs : cStatics < c.B) (hh : A.handled = none) (hroom : A.in1.depth < recursionLimit)
    (hig : s.heap.IsGen a gi) (hlim : s.heap.NoLimit) {gs : GenState} (hgs : s.gens[gi]? = some gs) (hgo : ∀ s'' : Shared, (∀ b o, b ≠ c.S → s.heap.get? b = some o → s''.heap.get? b = some o) → (∃ o, s''.heap.get? c.S = some o) → gs.Goes (model prog w) A.in1.in1 c.R c.Y (c.rem 0) (.send .none) s'')
    (hQ : ∀ s' t', (∀ b o, b < c.B → s.heap.get? b = some o → s'.heap.get? b = some o) → GenOnlyQ gi s.gens s'.gens → s'.os = s.os → Q (.int 0 t') s') :
    wpAny (model prog w) A (call (.builtin "sum") [.ref a]) Q E s := by
  refine call_function_tree F.kind_sum F.plain_sum F.entry_sum (F.args_sum1 _) ?_
  unfold Builtin.«sum»
  simp only [List.length_cons, List.length_nil]
  rw [if_neg (by decide)]
  refine wpAny_bind (wpAny_of_eq (show Builtin.Builtins.bindParams "sum" ["start"] 0 { } = pure [none] from rfl) ?_)
  refine wpAny_bind (wpAny_pyIter_gen hig ?_)
  refine wpAny_bind (wpAny_mkInt ?_)
  refine wpAny_bind (wpAny_pure ?_)
  simp only [List.forIn_cons, List.forIn_nil]
  refine wpAny_bind (wpAny_bind (wpAny_bind (wpAny_isInstance (T := "int") (b := false) (typeIs_int _ _ _) PySem.sub_int_str ?_)))
  simp only [Bool.false_eq_true, if_false]
  refine wpAny_pure (wpAny_bind (wpAny_bind (wpAny_isInstance (T := "int") (b := false) (typeIs_int _ _ _) PySem.sub_int_bytes ?_)))
  simp only [Bool.false_eq_true, if_false]
  refine wpAny_pure (wpAny_bind (wpAny_bind (wpAny_isInstance (T := "int") (b := false) (typeIs_int _ _ _) PySem.sub_int_bytearray ?_)))
  simp only [Bool.false_eq_true, if_false]
  refine wpAny_pure (wpAny_pure ?_)
  refine wpAny_bind (wpAny_newObj_type ?_)
  subst hg
  refine wpAny_pure ⟨plainId_quiet F.plain_sum_loop _, ?_⟩
  have kp : ∀ (o : Obj) (b : Addr) (u : Obj), s.heap.get? b = some u → (s.heap.push o).get? b = some u := fun o b u e => Heap.get?_push_of_some _ e
  rw [← hS]
  refine gx_sum_loop (A := A) (gi := gi) ok hcs hh hroom (c.rem 0) _ s.toks 0 ⟨?_, ?_, gs, ?_, ?_⟩ ?_ fun s' t' hE => ?_
  · exact hig.keeps (kp _)
  · exact hlim.keeps (kp _)
  · exact hgs
  · intro s'' hal hs2
    exact hgo s'' (fun b o hb e => hal b o hb (kp _ b o e)) hs2
  · rw [hS]; exact Heap.get?_push_size _ rfl
  · exact hQ s' t' (fun b o hb e => hE.kept b o hb (kp _ b o e)) hE.gens hE.os
end
/-! ### the rule -/
open L2
def EltLen (scope : Scope) (elt t1 : Expr) : Prop := ∃ (x : Str) (px p1 p2 p3 : Pos), t1 = .Name x px ∧ elt = .Call (.Name "len" p1) [.Name x p2] [] p3 ∧ scope.names.lookup x = some .local ∧ scope.names.lookup ("len" : Str) = some .globalImplicit ∧ (x == ("__debug__" : Str)) = false
/-- bare queues; or rows that are themselves bare -/
def Nought (H : Hp) (b : Bool) (xss : List (List V)) : Prop := if b then ∀ xs ∈ xss, ∀ x ∈ xs, ∃ q, x = .ref q ∧ H q = some (.lst []) else ∀ xs ∈ xss, xs = []
def ReadyZ (X : Cx) (pins : List (Addr × Obj)) (σ : L2.St) (H1 : Hp) (P g : Addr) (s5 : Shared) : Prop := ∃ (c : Ctx2) (gi : Nat) (gs : GenState), c.Ok ∧ c.S = s5.heap.objs.size ∧ c.g = g ∧ cStatics < c.B ∧ s5.heap.IsGen g gi ∧ s5.heap.NoLimit ∧ s5.gens[gi]? = some gs ∧
  (∀ s'' : Shared, (∀ b o, b ≠ c.S → s5.heap.get? b = some o → s''.heap.get? b = some o) → (∃ o, s''.heap.get? c.S = some o) → gs.Goes (model X.prog X.w) X.A.in1.in1 c.R c.Y (c.rem 0) (.send .none) s'') ∧
  ∀ s', (∀ b o, b < c.B → s5.heap.get? b = some o → s'.heap.get? b = some o) → GenOnlyQ gi s5.gens s'.gens → s'.os = s5.os → ∃ H2, GxR.Tabbed P H1 H2 ∧ Inv X pins σ H2 s'
theorem rows_vals {P : Program} {w : World} {H : Hp} {h : Heap} (ok : HOk P w H h) : ∀ {rs : List Addr} {xss : List (List V)}, Paired (fun r xs => H r = some (.lst xs)) rs xss → ∃ iss : List (List Value), Paired (fun r its => h.IsList r its.toArray) rs iss ∧ Paired Vals xss iss
  | _, _, .nil => ⟨[], .nil, .nil⟩
  | _, _, .cons e t => by
    obtain ⟨iss, p1, p2⟩ := rows_vals ok t
    obtain ⟨_, its, n, rv, hl⟩ := ok _ _ e
    exact ⟨its :: iss, .cons ⟨_, hl, rfl, n, rfl⟩ p1, .cons rv p2⟩
theorem pair_at {α β : Type} {F : α → β → Prop} : ∀ {l : List α} {l' : List β} {i : Nat} {a : α} {b : β}, Paired F l l' → l[i]? = some a → l'[i]? = some b → F a b
  | _, _, 0, _, _, .cons r _, h, h' => by
    simp at h h'; subst h; subst h'; exact r
  | _, _, i + 1, _, _, .cons _ t, h, h' => pair_at (i := i) t (by simpa using h) (by simpa using h')
  | _, _, _, _, _, .nil, h, _ => by simp at h
section
variable {X : Cx} {pins : List (Addr × Obj)} {σ : L2.St} {H : Hp} {s : Shared}
theorem gen_two {cc P : Addr} {elt t1 oe : Expr} {a x0 : Str} {px0 px1 ap gpos : Pos} {scope : Scope} {te : TE} {k : Nat} {b : Bool} {Q' : Value → Shared → Prop} {R : Hp → Prop}
    (hr : Room k X.A) (TB : GxR.TabB X.base X.mg cc P) (hcode : X.env.code = .ref cc) (S : GxR.GenS X.env scope x0) (hd0 : (x0 == ("__debug__" : Str)) = false) (hlen : X.mg "len" = none) (hi : PE X (.Attribute oe a ap) te) (hb : b = true → EltLen scope elt t1)
    (I : Inv X pins σ H s) (h : te σ H fun v H1 => ∃ (yl : Addr) (rs : List Addr) (xss : List (List V)), v = .ref yl ∧ H1 yl = some (.lst (rs.map V.ref)) ∧ Paired (fun r xs => H1 r = some (.lst xs)) rs xss ∧ Nought H1 b xss ∧ GxR.TabG H1 P ∧ R H1)
    (hQ : ∀ H1 g s5, R H1 → ReadyZ X pins σ H1 P g s5 → Q' (.ref g) s5) :
    wpAny (model X.prog X.w) X.A (eval (gx elt (.Name x0 px0) (.Attribute oe a ap) t1 (.Name x0 px1) scope gpos) X.env) Q' X.xe s := by
  refine gx_make S.co (closure_ok S.free) S.cell S.dot S.kind (by have := hr.dp; omega) ?_
  refine thn (hi.run pins s σ H _ I h) fun xv s1 ⟨v, H1, I1, r1, q1⟩ => ?_
  obtain ⟨yl, rs, xss, rfl, hyl, prs, hN, ⟨ps, hP, ht⟩, q1⟩ := q1
  obtain rfl : xv = Value.ref yl := r1
  obtain ⟨its, rv, hl, hz⟩ := I1.list (SqL.of hyl)
  have hIL := hl.isList
  obtain ⟨iss, pi, pv⟩ := rows_vals I1.hok prs
  refine wpAny_pyIter_list hIL ?_
  generalize ho : ({ cls := .type "list_iterator", data := .fields #[.ref yl, .int 0 0] } : Obj) = o
  have hitr : (s1.heap.push o).IsListIter s1.heap.objs.size yl 0 := by
    subst ho
    exact ⟨_, Heap.get?_push_size _ rfl, rfl, rfl⟩
  have hylt : yl < s1.heap.objs.size := by
    obtain ⟨_, e, _⟩ := _root_.id hIL
    exact Heap.lt_size e
  have hPs : s1.heap.get? P = some { cls := .none, data := .fields ps } := I1.hok P _ hP
  have hPlt : P < s1.heap.objs.size := Heap.lt_size hPs
  have hP2 : (s1.heap.push o).get? P = some { cls := .none, data := .fields ps } := Heap.get?_push_of_some _ hPs
  have cd : PySem.W.CodeHd (s1.heap.push o) cc P := TB.code.keeps fun b u e => Heap.get?_push_of_some _ (I1.bk b u e)
  have lim2 : (s1.heap.push o).NoLimit := I1.nolimit.push o
  have cont : ∀ (code : Value) (h3 : Heap) (tk : Nat) (ps' : Array Value), Heap.ExtBut P (s1.heap.push o) h3 → (s1.heap.push o).objs.size ≤ h3.objs.size → h3.get? P = some { cls := .none, data := .fields ps' } → (∃ more, ps' = ps ++ more) → TriplesOk ps'.toList →
      wpAny (model X.prog X.w) X.A (builtinsFor X.env.globals X.env.builtins) (fun bi s₄ =>
        ∀ h', h'.Ns s₄.heap.objs.size (fun y => if y = ".0" then some (.ref s1.heap.objs.size) else none) → Heap.SameBut s₄.heap.objs.size (s₄.heap.push { cls := .type "frame", data := .dict #[] }) h' →
          Q' (.ref h'.objs.size) { s₄ with
            gens := s₄.gens.push (.fresh (.compStart (gx elt (.Name x0 px0) (.Attribute oe a ap) t1 (.Name x0 px1) scope gpos) 0 (.ref s1.heap.objs.size) .none (genEnv scope (cloFrom X.env.cells scope.names []) s₄.heap.objs.size code bi X.env))),
            toks := s₄.toks + 1 + 1 + 1,
            heap := h'.push { cls := .type "generator", data := .fields #[.int s₄.gens.size 0, .str "<genexpr>" (s₄.toks + 1), .str (X.env.qual ++ "<genexpr>") (s₄.toks + 1 + 1)] } }) X.xe { s1 with heap := h3, toks := tk } := by
    intro code h3 tk ps' hx hsz hP3 hmore ht3
    obtain ⟨bm, ob, e1, e2, e3, e4, e5, e6, e7, e8⟩ := TB.bm
    have hcP : cStatics ≠ P := fun e => by
      obtain ⟨_, hns, _⟩ := I1.nolimit
      obtain ⟨o', es, ep, ho, hd, _⟩ := hns
      rw [e, hPs] at ho
      cases ho
      cases hd
    have hcl : cStatics < s1.heap.objs.size := let ⟨_, hns, _⟩ := I1.nolimit; hns.lt
    have sz2 : (s1.heap.push o).objs.size = s1.heap.objs.size + 1 := Heap.size_push ..
    have keep3 : ∀ b u, b ≠ P → s1.heap.get? b = some u → h3.get? b = some u := fun b u hb e => hx b u hb (Heap.get?_push_of_some _ e)
    have hglob : h3.Ns mainGlobals X.mg := ((I1.mod.glob.keeps I1.bk).push o).extBut hx TB.gP
    have hglt : mainGlobals < s1.heap.objs.size := (I1.mod.glob.keeps I1.bk).lt
    obtain ⟨mb, hblt0, hboot⟩ := I1.mod.blt
    have hblt1 := hblt0.keeps I1.bk
    have hbP : builtinsNs ≠ P := fun e => by
      obtain ⟨o', es, ep, ho, hd, _⟩ := hblt1
      rw [e, hPs] at ho
      cases ho
      cases hd
    have hblt : h3.Ns builtinsNs mb := (hblt1.push o).extBut hx hbP
    refine wpAny_builtinsFor (m := X.mg) (by rw [I1.ok.glob]; exact hglob) e1 e2 (keep3 _ _ e4 (I1.bk _ _ e5)) e6 e7 e8 ?_
    intro h' hn' hs'
    refine hQ H1 _ _ q1 ?_
    dsimp only at hn' hs' ⊢
    have hsz' : h'.objs.size = h3.objs.size + 1 := by rw [hs'.1, Heap.size_push]
    have keep' : ∀ b u, h3.get? b = some u → h'.get? b = some u := fun b u e => hs'.extBut b u (Nat.ne_of_lt (Heap.lt_size e)) (Heap.get?_push_of_some _ e)
    have notP : ∀ {r : Addr} {vs : Array Value}, s1.heap.IsList r vs → r ≠ P := fun q z => by
      obtain ⟨_, e, hc1, _, hd1⟩ := q
      rw [z, hPs] at e
      cases e
      cases hd1
    have list3 : ∀ {r : Addr} {vs : Array Value}, s1.heap.IsList r vs → h3.IsList r vs := fun q => by
      obtain ⟨u, e, z⟩ := _root_.id q
      exact ⟨u, keep3 _ _ (notP q) e, z⟩
    have ltl : ∀ {r : Addr} {vs : Array Value}, s1.heap.IsList r vs → r < s1.heap.objs.size := fun q => let ⟨_, e, _⟩ := q; Heap.lt_size e
    have hit3 : h3.IsListIter s1.heap.objs.size yl 0 := hitr.at fun u e => hx _ u (Nat.ne_of_gt hPlt) e
    have lenI : its.length = rs.length := by rw [← rv.length, List.length_map]
    have lenS : rs.length = iss.length := Paired.length pi
    have row : ∀ i, i < rs.length → rs[i]? = some (rs.getD i 0) ∧ iss[i]? = some (iss.getD i []) := fun i hi => by
      rw [List.getD_eq_getElem?_getD, List.getD_eq_getElem?_getD, List.getElem?_eq_getElem hi, List.getElem?_eq_getElem (by omega)]
      exact ⟨rfl, rfl⟩
    generalize hgo : ({ cls := .type "generator", data := .fields #[.int s1.gens.size 0, .str "<genexpr>" (tk + 1), .str (X.env.qual ++ "<genexpr>") (tk + 1 + 1)] } : Obj) = og
    let c : Ctx2 := { B := s1.heap.objs.size, S := h3.objs.size + 2, g := h'.objs.size, C := h3.objs.size, I := s1.heap.objs.size, l := yl, n := rs.length, href := h3, items := its.toArray, rs := fun i => rs.getD i 0, inn := fun i => (iss.getD i []).toArray, rem := fun i => ((iss.drop i).map List.length).sum }
    have ok : c.Ok := {
      Il := Nat.le_refl _
      Cl := (by show s1.heap.objs.size ≤ h3.objs.size; omega)
      Sl := (by show s1.heap.objs.size ≤ h3.objs.size + 2; omega)
      gl := (by show s1.heap.objs.size ≤ h'.objs.size; omega)
      IC := (by show s1.heap.objs.size ≠ h3.objs.size; omega)
      IS := (by show s1.heap.objs.size ≠ h3.objs.size + 2; omega)
      Ig := (by show s1.heap.objs.size ≠ h'.objs.size; omega)
      CS := (by show h3.objs.size ≠ h3.objs.size + 2; omega)
      Cg := (by show h3.objs.size ≠ h'.objs.size; omega)
      Sg := (by show h3.objs.size + 2 ≠ h'.objs.size; omega)
      size := (by show its.toArray.size = rs.length; rw [List.size_toArray, lenI])
      list := list3 hIL
      ll := hylt
      rl := fun i hi => ltl (pair_at (F := fun r its => s1.heap.IsList r its.toArray) pi (row i hi).1 (row i hi).2)
      at_ := fun i hi => ⟨by
        have e : (rs.map V.ref)[i]? = some (V.ref (rs.getD i 0)) := by rw [List.getElem?_map, (row i hi).1] <;> rfl
        obtain ⟨u, hu, ru⟩ := rv.get e
        have ru' : u = Value.ref (rs.getD i 0) := ru
        show its.toArray[i]? = _
        rw [List.getElem?_toArray, hu, ru'], list3 (pair_at (F := fun r its => s1.heap.IsList r its.toArray) pi (row i hi).1 (row i hi).2)⟩
      rem0 := (by show ((iss.drop rs.length).map List.length).sum = 0; rw [lenS, List.drop_length]; rfl)
      rem1 := fun i hi => by
        have hi' : i < iss.length := by have : i < rs.length := hi; omega
        show ((iss.drop i).map List.length).sum = (iss.getD i []).toArray.size + ((iss.drop (i + 1)).map List.length).sum
        rw [List.drop_eq_getElem_cons hi', List.map_cons, List.sum_cons, List.size_toArray, List.getD_eq_getElem?_getD, List.getElem?_eq_getElem hi']
        rfl }
    have elts : c.Elts X.prog X.w (genEnv scope (cloFrom X.env.cells scope.names []) h3.objs.size code builtinsNs X.env) elt t1 := by
      have rowV : ∀ i, i < rs.length → ∃ xs, xs ∈ xss ∧ Vals xs (iss.getD i []) := fun i hi => by
        have l1 := Paired.length prs
        have e : xss[i]? = some (xss[i]'(by omega)) := List.getElem?_eq_getElem (by omega)
        exact ⟨_, List.mem_of_getElem? e, pair_at (F := Vals) pv e (row i hi).2⟩
      cases b with
      | false =>
        refine .inr fun i hi => ?_
        obtain ⟨xs, hm, r⟩ := rowV i hi
        have hN' : ∀ xs ∈ xss, xs = [] := hN
        rw [hN' xs hm] at r
        show (iss.getD i []).toArray = #[]
        generalize iss.getD i [] = z at r
        cases r
        rfl
      | true =>
        obtain ⟨x, px, p1, p2, p3, rfl, rfl, hx1, hx2, hxd⟩ := hb rfl
        refine .inl ⟨x, px, rfl, hx1, fun A' E' i j v s₂ m₂ hA hi hv hns hm hbase => ?_⟩
        obtain ⟨xs, hm1, r⟩ := rowV i hi
        have hN' : ∀ xs ∈ xss, ∀ x ∈ xs, ∃ q, x = V.ref q ∧ H1 q = some (.lst []) := hN
        have hv2 : (iss.getD i [])[j]? = some v := by
          have : (iss.getD i []).toArray[j]? = some v := hv
          rwa [List.getElem?_toArray] at this
        obtain ⟨q, rfl, hq⟩ : ∃ q, v = Value.ref q ∧ H1 q = some (.lst []) := by
          have hj : j < xs.length := by rw [r.length]; exact (List.getElem?_eq_some_iff.mp hv2).1
          have e : xs[j]? = some xs[j] := List.getElem?_eq_getElem hj
          obtain ⟨q, e1, e2⟩ := hN' xs hm1 _ (List.mem_of_getElem? e)
          have e3 := pair_at (F := RelV) r e hv2
          rw [e1] at e3
          exact ⟨q, e3, e2⟩
        have hqL : s1.heap.IsList q #[] := by
          obtain ⟨_, its', n, rv', e⟩ := I1.hok _ _ hq
          cases rv'
          exact ⟨_, e, rfl, n, rfl⟩
        have hq2 : s₂.heap.IsList q #[] := by
          obtain ⟨u, e, z⟩ := list3 hqL
          exact ⟨u, hbase q u (ltl hqL) e, z⟩
        have hg2 : s₂.heap.Ns mainGlobals X.mg := hglob.at' fun u e => hbase _ u hglt e
        have hb2 : s₂.heap.Ns builtinsNs mb := hblt.at' fun u e => hbase _ u hblt1.lt e
        refine wpAny_Call_Name_kw (Calls.Name_function_global S.kind hx2 (Calls.loadGlobal_builtin (by show s₂.heap.Ns X.env.globals X.mg; rw [I1.ok.glob]; exact hg2) hlen hb2 ((hboot "len" (by decide)).trans boot_len) ?_) (by decide))
        refine PyProof.Rows.callWith_builtin1 ?_ (by rfl) (by rfl)
        show wpAny _ _ (spliced ((false, eval (.Name x p2) _) :: [])) _ _ s₂
        refine Calls.spliced_cons (wpAny_Name (wpAny_loadName_local S.kind hx1 hns hm ?_) hxd)
        refine Calls.spliced_nil ?_
        refine Calls.call_len_list hq2 (by decide) ⟨⟨_, rfl⟩, GxR.keeps_tok _ _⟩
    have keep5 : ∀ b u, h3.get? b = some u → (h'.push og).get? b = some u := fun b u e => Heap.get?_push_of_some _ (keep' b u e)
    refine ⟨c, s1.gens.size, _, ok, ?_, rfl, hcl, ?_, ?_, Array.getElem?_push_size .., fun s'' hal hS => ?_, fun s' hk hg ho' => ?_⟩
    · show h3.objs.size + 2 = (h'.push og).objs.size
      rw [Heap.size_push, hsz']
    · exact ⟨_, _, _, Heap.get?_push_size _ (by subst hgo; rfl), by subst hgo; rfl, by subst hgo; rfl, by subst hgo; rfl⟩
    · exact (lim2.extBut hx hcP).keeps keep5
    · refine ⟨rfl, gx_seg_start (A := X.A.in1.in1) ok hr.hd rfl S.kind S.co elts S.loc hd0 s'' ?_⟩
      have kS : ∀ b u, h3.get? b = some u → s''.heap.get? b = some u := fun b u e => hal b u (fun z => by
        have := Heap.lt_size e
        rw [z] at this
        exact absurd this (by show ¬ h3.objs.size + 2 < h3.objs.size; omega)) (keep5 b u e)
      exact {
        it := hit3.at fun u e => kS _ u e
        base := fun b u _ e => kS b u e
        ns := ⟨_, (hn'.push og).at' fun u e => hal _ u ok.CS e⟩
        s := hS
        g := ⟨_, hal _ _ (Ne.symm ok.Sg) (Heap.get?_push_size _ (by subst hgo; rfl))⟩ }
    · obtain ⟨more, em⟩ := hmore
      have J := GxR.inv_tab (more := more) (h' := s'.heap) (g' := s'.gens) (d' := s'.drawn) (t' := s'.toks) I1 hP (fun b u hb e => hk b u (Heap.lt_size e) (keep5 b u (keep3 b u hb e)))
        (by rw [← em]; exact hk P _ hPlt (keep5 P _ hP3)) (hg.bare (I1.bare.push rfl))
      rw [GxR.sh_eta s1 s' ho'] at J
      exact ⟨upd H1 P (.tbl (ps ++ more)), ⟨⟨ps ++ more, upd_same, by rw [← em]; exact ht3⟩, fun b hb => upd_ne hb⟩, J⟩
  refine ⟨lim2, ?_⟩
  cases hf : codeAmong gpos ps.toList with
  | none =>
    refine wpAny_genexprCodeX hcode (cd.code hP2 ht) (cd.tab hP2) hf fun c' h' tk hx hge hlt hco' _ htab' _ => ?_
    obtain ⟨o1, vs, f1, tf, fl, tg, inF, tx, tt, op, _, _, _, _, _, _, _, _, _, htr, _⟩ := hco'
    exact cont _ h' tk _ hx (Nat.le_trans hge (Nat.le_of_lt hlt)) htab'.2 ⟨_, rfl⟩ htr
  | some cv =>
    refine wpAny_genexprCode_hit hcode (cd.code hP2 ht) hf ?_
    exact cont cv (s1.heap.push o) s1.toks ps (Heap.ExtBut.refl _ _) (Nat.le_refl _) hP2 ⟨#[], by simp⟩ ht
/-- sum(elt for x0 in oe.a for t1 in x0), all elements nought -/
def tSum0 (b : Bool) (P : Addr) (te : TE) : TE := fun σ H Q => te σ H fun v H1 => ∃ (yl : Addr) (rs : List Addr) (xss : List (List V)), v = .ref yl ∧ H1 yl = some (.lst (rs.map V.ref)) ∧ Paired (fun r xs => H1 r = some (.lst xs)) rs xss ∧ Nought H1 b xss ∧ GxR.TabG H1 P ∧
  ∀ H2, GxR.Tabbed P H1 H2 → Q (.int 0) H2
theorem pe_sumTwo {cc P : Addr} {elt t1 oe : Expr} {a x0 : Str} {p px0 px1 ap gpos pos : Pos} {scope : Scope} {te : TE} {k : Nat} (b : Bool)
    (hr : Room k X.A) (hg : Gl X "sum") (hm : X.mg "sum" = none) (TB : GxR.TabB X.base X.mg cc P) (hcode : X.env.code = .ref cc) (S : GxR.GenS X.env scope x0) (hd0 : (x0 == ("__debug__" : Str)) = false) (hlen : X.mg "len" = none) (hi : PE X (.Attribute oe a ap) te) (hb : b = true → EltLen scope elt t1)
    (he : starEach [gx elt (.Name x0 px0) (.Attribute oe a ap) t1 (.Name x0 px1) scope gpos] X.env = (false, eval (gx elt (.Name x0 px0) (.Attribute oe a ap) t1 (.Name x0 px1) scope gpos) X.env) :: starEach [] X.env := by rfl) :
    PE X (.Call (.Name "sum" p) [gx elt (.Name x0 px0) (.Attribute oe a ap) t1 (.Name x0 px1) scope gpos] [] pos) (tSum0 b P te) := by
  refine ⟨fun pins s σ H Q I h => ?_⟩
  refine wpAny_Call_Name_kw (ld_blt I hg hm boot_sum ?_)
  refine PyProof.Rows.callWith_builtin1 ?_ he (by rfl)
  rw [he]
  show wpAny _ _ (spliced ((false, eval (gx elt (.Name x0 px0) (.Attribute oe a ap) t1 (.Name x0 px1) scope gpos) X.env) :: backTo pos (starEach [] X.env))) _ _ s
  refine Calls.spliced_cons (gen_two (R := fun H1 => ∀ H2, GxR.Tabbed P H1 H2 → Q (.int 0) H2) hr TB hcode S hd0 hlen hi hb I h fun H1 g s5 hR hG => ?_)
  obtain ⟨c, gi, gs, ok, hS, hg', hcs, hig, hl, hgs, hgo, hI⟩ := hG
  refine Calls.spliced_nil ?_
  refine call_sum_gx c ok hS hg' hcs hr.hd (by have := hr.dp; show X.A.depth < recursionLimit; omega) hig hl hgs hgo fun s' t' hk hgn ho => ?_
  obtain ⟨H2, hT, J⟩ := hI s' hk hgn ho
  exact ⟨.int 0, H2, J, ⟨_, rfl⟩, hR H2 hT⟩
end
end K44

set_option Elab.async false
set_option maxRecDepth 100000
set_option pp.maxSteps 600
set_option linter.all false
namespace K44
open PySem L2
/-- a def whose code object is known -/
structure FunC (K : PySem.W.Frag) (x qual : Str) (st : Stmt) (f : Addr) (fd : FuncData) (cc : Addr) : Prop where
  ex : ∃ (oc : Value) (od : Option Addr) (kV doc pm : Value) (an : Option Addr) (ct : Value) (osl : Array (Option Value)),
    fd = PySem.W.fnOf x qual (defArgs st) (defBody st) (defScope st) .none kV doc pm an (.ref cc) ct ∧ K.lookup f = some ⟨oc, od, .func fd, osl⟩ ∧ PySem.W.codeIn K (.ref cc) qual = true
section
variable {P : Program} {w : World} {K : PySem.W.Frag} {mg : Str → Option Value} {base : Heap}
theorem FunC.ok {x qual : Str} {st : Stmt} {f cc : Addr} {fd : FuncData} {N ps : List Str} {k : Nat} {sp : Sp} (F : FunC K x qual st f fd cc) (S : FnScope N ps (defScope st)) (len : ∀ vs H Q E, sp vs H Q E → vs.length = ps.length)
    (hbody : ∀ (A : Around) (outer : List Env) (s : Shared) (H : Hp) (vs : List V) (Q : VK) (E : XK), Room k (A.deeper (PyProof.Rows.envOfC qual (defScope st) s.heap.objs.size f (.ref cc))) → sp vs H Q E →
      ∃ t, PSs (cxOf CX0 P w K mg base N qual (defScope st) f (.ref cc) A outer s H E).nox (defBody st) t ∧ t { nx := fun _ H' => Q .non H', rt := Q } (start N vs) H) : FnOk P w K mg base CX0 (k + 1) f fd ps sp := by
  obtain ⟨oc, od, kV, doc, pm, an, ct, osl, rfl, lk, hcd⟩ := F.ex
  refine fn_of lk hcd S len fun A outer s H vs Q E hr hsp => ?_
  obtain ⟨t, h, q⟩ := hbody A outer s H vs Q E hr hsp
  exact ⟨t, h.nox, q⟩
theorem funC_mk {x qual : Str} {st : Stmt} {f cc : Addr} {oc : Value} {od an : Option Addr} {osl : Array (Option Value)} {kV doc pm ct : Value} (l : K.lookup f = some ⟨oc, od, .func (PySem.W.fnOf x qual (defArgs st) (defBody st) (defScope st) .none kV doc pm an (.ref cc) ct), osl⟩)
    (c : PySem.W.codeIn K (.ref cc) qual = true) : FunC K x qual st f (PySem.W.fnOf x qual (defArgs st) (defBody st) (defScope st) .none kV doc pm an (.ref cc) ct) cc := ⟨⟨oc, od, kV, doc, pm, an, ct, osl, rfl, l, c⟩⟩
end
theorem pair_map {α β γ : Type} {F : α → β → Prop} {f : γ → α} {g : γ → β} : ∀ (l : List γ), (∀ i ∈ l, F (f i) (g i)) → Paired F (l.map f) (l.map g)
  | [], _ => .nil
  | a :: l, h => .cons (h a List.mem_cons_self) (pair_map l fun i hi => h i (List.mem_cons_of_mem _ hi))
theorem get2_bare {α : Type} {m i j : Nat} {q : List α} (h : get2 (List.replicate m (List.replicate m [])) i j = some q) : q = [] := by
  unfold get2 at h
  by_cases hi : i < m
  · rw [List.getElem?_replicate, if_pos hi] at h
    dsimp only at h
    rw [List.getElem?_replicate] at h
    split at h
    · exact (Option.some.inj h).symm
    · cases h
  · rw [List.getElem?_replicate, if_neg hi] at h
    cases h
theorem bare_iff {m : Nat} {s : S} (h : bare m s = true) : s.wait = List.replicate m (List.replicate m []) ∧ s.rows = List.replicate m [] ∧ s.mid = List.replicate m (List.replicate m []) := by
  unfold bare at h
  simp only [Bool.and_eq_true, decide_eq_true_eq] at h
  exact ⟨h.1.1, h.1.2, h.2⟩
section
variable {C : Addr} {m : Nat} {ca : Nat → V} {ad : Ky → Addr} {s : S} {H0 H H2 : Hp} {P : Addr}
theorem refs_map (m : Nat) (f : Nat → Addr) : ((List.range m).map f).map V.ref = refs m f := by
  unfold refs; rw [List.map_map]; rfl
theorem Rep.tabbed (r : Rep C m ca ad s H) (hP : ∃ ps, H P = some (.tbl ps)) (t : GxR.Tabbed P H H2) : Rep C m ca ad s H2 := by
  obtain ⟨ps, hP⟩ := hP
  have np : ∀ k, k.ok m → ad k ≠ P := fun k hk z => by
    have c := r.all k hk
    rw [← z] at hP
    cases k with
    | ins => obtain ⟨dx, q⟩ := c; rw [hP] at q; cases q
    | W => have q : _ = _ := c; rw [hP] at q; cases q
    | R => have q : _ = _ := c; rw [hP] at q; cases q
    | M => have q : _ = _ := c; rw [hP] at q; cases q
    | Wr i => have q : _ = _ := c; rw [hP] at q; cases q
    | Mr i => have q : _ = _ := c; rw [hP] at q; cases q
    | Rr i => obtain ⟨rs, vs, a, b, p⟩ := c; rw [hP] at b; cases b
    | Wq i j => obtain ⟨q, a, b⟩ := c; rw [hP] at b; cases b
    | Mq i j => obtain ⟨q, vs, a, b, p⟩ := c; rw [hP] at b; cases b
  refine ⟨r.inj, fun k hk => (r.all k hk).keep (t.2 _ (np k hk)) fun b xs e => ?_⟩
  rw [t.2 b (fun z => by rw [z, hP] at e; cases e)]
  exact e
/-- the readings of the three rows of queues -/
theorem bare_rows (r : Rep C m ca ad s H) (hb : bare m s = true) : Paired (fun q xs => H q = some (.lst xs)) ((List.range m).map fun i => ad (.Rr i)) ((List.range m).map fun _ => ([] : List V)) := by
  refine pair_map _ fun i hi => ?_
  have hi' := List.mem_range.mp hi
  obtain ⟨rs, vs, e1, e2, p⟩ := r.all (.Rr i) hi'
  rw [(bare_iff hb).2.1, List.getElem?_replicate, if_pos hi'] at e1
  cases e1
  cases p
  exact e2
theorem bare_mid (r : Rep C m ca ad s H) (hb : bare m s = true) : Paired (fun q xs => H q = some (.lst xs)) ((List.range m).map fun i => ad (.Mr i)) ((List.range m).map fun i => refs m fun j => ad (.Mq i j)) ∧
    Nought H true ((List.range m).map fun i => refs m fun j => ad (.Mq i j)) := by
  refine ⟨pair_map _ fun i hi => r.all (.Mr i) (List.mem_range.mp hi), fun xs hx x hm => ?_⟩
  obtain ⟨i, hi, rfl⟩ := List.mem_map.mp hx
  obtain ⟨j, hj, rfl⟩ := List.mem_map.mp hm
  obtain ⟨q, vs, e1, e2, p⟩ := r.all (.Mq i j) ⟨List.mem_range.mp hi, List.mem_range.mp hj⟩
  rw [(bare_iff hb).2.2] at e1
  have := get2_bare e1
  subst this
  cases p
  exact ⟨_, rfl, e2⟩
theorem bare_wait (r : Rep C m ca ad s H) (hb : bare m s = true) : Paired (fun q xs => H q = some (.lst xs)) ((List.range m).map fun i => ad (.Wr i)) ((List.range m).map fun i => refs m fun j => ad (.Wq i j)) ∧
    Nought H true ((List.range m).map fun i => refs m fun j => ad (.Wq i j)) := by
  refine ⟨pair_map _ fun i hi => r.all (.Wr i) (List.mem_range.mp hi), fun xs hx x hm => ?_⟩
  obtain ⟨i, hi, rfl⟩ := List.mem_map.mp hx
  obtain ⟨j, hj, rfl⟩ := List.mem_map.mp hm
  obtain ⟨q, e1, e2⟩ := r.all (.Wq i j) ⟨List.mem_range.mp hi, List.mem_range.mp hj⟩
  rw [(bare_iff hb).1] at e1
  have := get2_bare e1
  subst this
  exact ⟨_, rfl, e2⟩
end
section
variable {P : Program} {w : World} {K : PySem.W.Frag} {mg : Str → Option Value} {base : Heap}
/-- the count of a bare Spread: nought; the def's table may grow -/
def spBare (C T : Addr) : Sp := fun vs H Q _ => ∃ (m : Nat) (ca : Nat → V) (ad : Ky → Addr) (s : S), vs = [.ref (ad .ins)] ∧ Rep C m ca ad s H ∧ bare m s = true ∧ GxR.TabG H T ∧ ∀ H2, GxR.Tabbed T H H2 → Q (.int 0) H2
theorem scShort : FnScope ["self"] ["self"] (defScope sShort) := ⟨rfl, rfl, rfl, by decide +kernel, rfl, by decide +kernel, by decide +kernel⟩
theorem gs_of {env : Env} {scope : Scope} {x : Str} (h1 : scope.kind = .function) (h2 : scope.isCoroutine = false) (h3 : (scope.names.all fun y => decide (y.2 ≠ .cell) && decide (y.2 ≠ .free)) = true) (h4 : scope.names.lookup (".0" : Str) = some NameKind.local) (h5 : scope.names.lookup x = some .local) : GxR.GenS env scope x := by
  rw [List.all_eq_true] at h3
  refine ⟨h1, h2, fun y hy => ?_, h4, h5, fun y hy e => ?_⟩
  · have := h3 y hy
    rw [Bool.and_eq_true, decide_eq_true_eq, decide_eq_true_eq] at this
    exact this.1
  · have := h3 y hy
    rw [Bool.and_eq_true, decide_eq_true_eq, decide_eq_true_eq] at this
    exact absurd e this.2
theorem ok_short {f C I cc Tb : Addr} {fd : FuncData} (F : FunC K "short" "Spread.short" sShort f fd cc) (T : Txt K mg C I) (TB : GxR.TabB base mg cc Tb) : FnOk P w K mg base CX0 1 f fd ["self"] (spBare C Tb) := by
  refine F.ok scShort (fun vs H Q E h => ?_) (fun A outer s H vs Q E hr h => ?_)
  · obtain ⟨m, ca, ad, st, rfl, _⟩ := h
    rfl
  · obtain ⟨m, ca, ad, st, rfl, r, hb, hT, k⟩ := h
    refine ⟨_, pss_one (ps_ret (pe_sumTwo true hr rfl T.sum TB rfl (gs_of rfl rfl (by decide +kernel) rfl rfl) (by decide +kernel) T.len (pe_fld (pv 0) rfl) fun _ => ⟨_, _, _, _, _, rfl, rfl, rfl, rfl, by decide +kernel⟩)), ?_⟩
    obtain ⟨dx, hI⟩ := r.all .ins trivial
    obtain ⟨p1, p2⟩ := bare_wait r hb
    exact ⟨_, rfl, _, C, dx, _, _, rfl, hI, T.cl, T.nWait, fS_waiting _ _ _ _ _, _, _, _, rfl, (r.all .W trivial).trans (by rw [refs_map]), p1, p2, hT, k⟩
theorem scLeft : FnScope ["self", "ahead"] ["self"] (defScope sLeft) := ⟨rfl, rfl, rfl, by decide +kernel, rfl, by decide +kernel, by decide +kernel⟩
theorem ok_left {f C I cc Tb : Addr} {fd : FuncData} (F : FunC K "left_inside" "Spread.left_inside" sLeft f fd cc) (T : Txt K mg C I) (TB : GxR.TabB base mg cc Tb) : FnOk P w K mg base CX0 1 f fd ["self"] (spBare C Tb) := by
  refine F.ok scLeft (fun vs H Q E h => ?_) (fun A outer s H vs Q E hr h => ?_)
  · obtain ⟨m, ca, ad, st, rfl, _⟩ := h
    rfl
  · obtain ⟨m, ca, ad, st, rfl, r, hb, hT, k⟩ := h
    refine ⟨_, pss_cons (ps_set (i := 1) scLeft.nd rfl (Or.inl rfl) (pe_sumTwo false hr rfl T.sum TB rfl (gs_of rfl rfl (by decide +kernel) rfl rfl) (by decide +kernel) T.len (pe_fld (pv 0) rfl) fun h => absurd h (by decide)))
      (pss_one (ps_ret (pe_op op_add (pv 1) (pe_sumTwo true hr rfl T.sum TB rfl (gs_of rfl rfl (by decide +kernel) rfl rfl) (by decide +kernel) T.len (pe_fld (pv 0) rfl) fun _ => ⟨_, _, _, _, _, rfl, rfl, rfl, rfl, by decide +kernel⟩)))), ?_⟩
    obtain ⟨dx, hI⟩ := r.all .ins trivial
    refine ⟨_, rfl, _, C, dx, _, _, rfl, hI, T.cl, T.nRows, fS_rows _ _ _ _ _, _, _, _, rfl, (r.all .R trivial).trans (by rw [refs_map]), bare_rows r hb, fun xs hx => ?_, hT, fun H1 t1 => ?_⟩
    · obtain ⟨i, _, rfl⟩ := List.mem_map.mp hx
      rfl
    have r1 := r.tabbed (let ⟨ps, e, _⟩ := hT; ⟨ps, e⟩) t1
    obtain ⟨dx1, hI1⟩ := r1.all .ins trivial
    obtain ⟨p1, p2⟩ := bare_mid r1 hb
    refine ⟨_, rfl, _, rfl, _, C, dx1, _, _, rfl, hI1, T.cl, T.nMid, fS_middle _ _ _ _ _, _, _, _, rfl, (r1.all .M trivial).trans (by rw [refs_map]), p1, p2, t1.1, fun H2 t2 => ⟨_, _, rfl, rfl, ?_⟩⟩
    exact k H2 ⟨t2.1, fun b hb => (t2.2 b hb).trans (t1.2 b hb)⟩
end
end K44

set_option maxRecDepth 100000
namespace K44
/-- what left the fabric, with its slot: (cell, slot), in the order of leaving -/
def wh (sent : List (List (Nat × Nat × Nat))) (t : Nat) : List (Nat × Nat) := (List.range t).flatMap fun i => (sent.getD i []).map fun o => (o.2.2, i)
theorem wh_succ (sent : List (List (Nat × Nat × Nat))) (t : Nat) : wh sent (t + 1) = wh sent t ++ (sent.getD t []).map fun o => (o.2.2, t) := by
  unfold wh
  rw [List.range_succ, List.flatMap_append]
  simp
def fine (m : Nat) (gs : List Nat) : Bool :=
  match run m (arrive m (leftOf m gs)) with
  | none => false
  | some (s, sent) => bare m s && (sent.all fun row => decide ((row.map (·.2.1)).Nodup)) &&
      ((wh sent (slotsOf m (arrive m (leftOf m gs)).length)).map (·.1)).isPerm (List.range (arrive m (leftOf m gs)).length) &&
      ((wh sent (slotsOf m (arrive m (leftOf m gs)).length)).all fun p => decide (p.1 ≤ p.2)) && decide (sent.length = slotsOf m (arrive m (leftOf m gs)).length) && sent.all fun row => decide (row.length ≤ m)
def allF : Bool := [1, 2, 3].all fun m => [0, 1, 2, 3].all fun n => (lefts m n).all fun gs => fine m gs
set_option maxHeartbeats 4000000 in
theorem allF_true : allF = true := by decide +kernel
theorem mem_lefts {m : Nat} : ∀ (n : Nat) (gs : List Nat), gs.length = n → (∀ g ∈ gs, g < m) → gs ∈ lefts m n
  | 0, gs, h, _ => by
    have : gs = [] := List.length_eq_zero_iff.mp h
    rw [this]; exact List.mem_singleton.mpr rfl
  | n + 1, gs, h, hg => by
    have hne : gs ≠ [] := fun e => by rw [e] at h; cases h
    have e : gs.dropLast ++ [gs.getLast hne] = gs := List.dropLast_concat_getLast hne
    show gs ∈ (lefts m n).flatMap fun l => (List.range m).map fun g => l ++ [g]
    refine List.mem_flatMap.mpr ⟨gs.dropLast, mem_lefts n _ (by rw [List.length_dropLast, h]; rfl) (fun g q => hg g (List.dropLast_subset gs q)), List.mem_map.mpr ⟨gs.getLast hne, List.mem_range.mpr (hg _ (List.getLast_mem hne)), e⟩⟩
structure Fine (m : Nat) (arr : List (Nat × Nat)) (s : S) (sent : List (List (Nat × Nat × Nat))) : Prop where
  run : K44.run m arr = some (s, sent)
  bare : K44.bare m s = true
  nodup : ∀ row ∈ sent, (row.map (·.2.1)).Nodup
  perm : ((wh sent (slotsOf m arr.length)).map (·.1)).Perm (List.range arr.length)
  late : ∀ p ∈ wh sent (slotsOf m arr.length), p.1 ≤ p.2
  len : sent.length = slotsOf m arr.length
  row : ∀ row ∈ sent, row.length ≤ m
theorem fine_of {m : Nat} {gs : List Nat} (h1 : 1 ≤ m) (h2 : m ≤ 3) (hl : gs.length ≤ 3) (hg : ∀ g ∈ gs, g < m) : ∃ s sent, Fine m (arrive m (leftOf m gs)) s sent := by
  have h : fine m gs = true := by
    have a := List.all_eq_true.mp allF_true m (by
      have : m = 1 ∨ m = 2 ∨ m = 3 := by omega
      rcases this with e | e | e <;> rw [e] <;> decide)
    have b := List.all_eq_true.mp a gs.length (by
      have : gs.length = 0 ∨ gs.length = 1 ∨ gs.length = 2 ∨ gs.length = 3 := by omega
      rcases this with e | e | e | e <;> rw [e] <;> decide)
    exact List.all_eq_true.mp b gs (mem_lefts _ gs rfl hg)
  unfold fine at h
  cases e : run m (arrive m (leftOf m gs)) with
  | none => rw [e] at h; cases h
  | some q =>
    obtain ⟨s, sent⟩ := q
    rw [e] at h
    simp only [Bool.and_eq_true] at h
    obtain ⟨⟨⟨⟨⟨g1, g2⟩, g3⟩, g4⟩, g5⟩, g6⟩ := h
    exact ⟨s, sent, e, g1, fun row hr => of_decide_eq_true (List.all_eq_true.mp g2 row hr), List.isPerm_iff.mp g3, fun p hp => of_decide_eq_true (List.all_eq_true.mp g4 p hp), of_decide_eq_true g5, fun row hr => of_decide_eq_true (List.all_eq_true.mp g6 row hr)⟩
end K44

set_option Elab.async false
set_option maxRecDepth 100000
set_option pp.maxSteps 600
set_option linter.all false
namespace K44
open PySem L2
/-! ### what is known beside the Spread: G grows with the heap -/
section
variable {C : Addr} {m : Nat} {ca : Nat → V} {ad : Ky → Addr} {s : S} {G H H' : Hp}
theorem At.new (a : At C m ca ad s G H) {b : Addr} {o : HO} (nb : H b = none) : At C m ca ad s (upd G b o) (upd H b o) := by
  have a1 := a.mono (same_new (o := o) nb)
  refine ⟨a1.rep, fun c u e => ?_, fun k hk => ?_⟩
  · by_cases h : c = b
    · rw [h, upd_same] at e; rw [h, upd_same]; exact e
    · rw [upd_ne h] at e; rw [upd_ne h]; exact a.same _ _ e
  · rw [upd_ne (a.fresh hk nb)]; exact a.out k hk
theorem At.free (a : At C m ca ad s G H) {b : Addr} (nb : H b = none) : G b = none := a.same.free nb
theorem At.set (a : At C m ca ad s G H) {b : Addr} {o0 o : HO} (e0 : G b = some o0) (nt : ∀ xs, o0 ≠ .tup xs) : At C m ca ad s (upd G b o) (upd H b o) := by
  have nb : ∀ k, k.ok m → ad k ≠ b := fun k hk z => by rw [← z, a.out k hk] at e0; cases e0
  have tu : Tups H (upd H b o) := fun c xs e => by
    rw [upd_ne (fun z => by rw [z, a.same _ _ e0] at e; exact nt xs (Option.some.inj e))]
    exact e
  refine ⟨⟨a.rep.inj, fun k hk => (a.rep.all k hk).keep (upd_ne (nb k hk)) tu⟩, fun c u e => ?_, fun k hk => ?_⟩
  · by_cases h : c = b
    · rw [h, upd_same] at e; rw [h, upd_same]; exact e
    · rw [upd_ne h] at e; rw [upd_ne h]; exact a.same _ _ e
  · rw [upd_ne (nb k hk)]; exact a.out k hk
open Classical in
noncomputable def off (m : Nat) (ad : Ky → Addr) (H : Hp) : Hp := fun b => if ∃ k : Ky, k.ok m ∧ ad k = b then none else H b
theorem off_of {b : Addr} (h : ∀ k : Ky, k.ok m → ad k ≠ b) : off m ad H b = H b := by
  unfold off
  rw [if_neg (fun ⟨k, h1, h2⟩ => h k h1 h2)]
theorem At.grow (a : At C m ca ad s G H) (sm : Same H H') : At C m ca ad s (off m ad H') H' ∧ Same G (off m ad H') ∧ ∀ b xs, H' b = some (.tup xs) → off m ad H' b = some (.tup xs) := by
  have a1 := a.mono sm
  refine ⟨⟨a1.rep, fun b o e => ?_, fun k hk => ?_⟩, fun b o e => ?_, fun b xs e => ?_⟩
  · unfold off at e
    split at e
    · cases e
    · exact e
  · unfold off
    rw [if_pos ⟨k, hk, rfl⟩]
  · rw [off_of (fun k hk z => by rw [← z, a.out k hk] at e; cases e)]
    exact a1.same _ _ e
  · rw [off_of (fun k hk z => by
      obtain ⟨u, hu, nt⟩ := (a1.rep.all k hk).there
      rw [z, e] at hu
      exact nt xs (Option.some.inj hu).symm)]
    exact e
end

/-! ### the law's slots and its base -/
abbrev NL : List Str := ["_law_script", "_law_dice_here", "_law_many", "_law_spread", "_law_arrivals", "_law_left", "_law_turn", "_law_one", "_law_gate", "_law_number_now", "_law_slot", "_law_slots", "_law_sent", "_law_cell", "_law_ideal", "_law_when", "_law_first", "_law_cells", "_law_row"]
theorem scLaw : FnScope NL ["_law_script"] (defScope sLaw) := ⟨rfl, rfl, rfl, by decide +kernel, rfl, by decide +kernel, by decide +kernel⟩
def lawFor : Stmt := (defBody sLaw).getD 0 (.Pass ⟨0, 0, 0, 0⟩)
def lawIn (i : Nat) : Stmt := match lawFor with
  | .For _ _ body _ _ => body.getD i (.Pass ⟨0, 0, 0, 0⟩)
  | _ => .Pass ⟨0, 0, 0, 0⟩
abbrev XL (P : Program) (w : World) (K : PySem.W.Frag) (mg : Str → Option Value) (base : Heap) (f : Addr) (cdv : Value) (A : Around) (outer : List Env) (s : Shared) (H : Hp) (E : XK) : Cx :=
  (cxOf CX0 P w K mg base NL "law" (defScope sLaw) f cdv A outer s H E).nox
/-- a statement by its before and behind -/
def tHo (Pre Post : L2.St → Hp → Prop) : TS := fun D σ H => Pre σ H ∧ ∀ σ' H', Post σ' H' → D.nx σ' H'
theorem ps_ho {X : Cx} {st : Stmt} {Pre Post : L2.St → Hp → Prop} {t : TS} (hp : PS X st t) (h : ∀ (D : Ends) (σ : L2.St) (H : Hp), Pre σ H → (∀ σ' H', Post σ' H' → D.nx σ' H') → t D σ H) : PS X st (tHo Pre Post) :=
  ⟨fun pins s σ H D I hw => hp.run pins s σ H D I (h D σ H hw.1 hw.2)⟩
/-- an expression by what is asked at once -/
def tCut (te : TE) : TE := fun σ H Q => ∃ R : VK, te σ H R ∧ ∀ v H', R v H' → Q v H'
theorem pe_cut {X : Cx} {e : Expr} {te : TE} (h : PE X e te) : PE X e (tCut te) := ⟨fun pins s σ H Q I ⟨R, hr, hq⟩ => thn (h.run pins s σ H R I hr) fun v s' ⟨x, H', I', r, q⟩ => ⟨x, H', I', r, hq _ _ q⟩⟩
structure Bs (l d T1 T2 : Addr) (G : Hp) : Prop where
  lst : G l = some (.lst [.ref d])
  dice : ∃ x y z, G d = some (D3 x y z)
  t1 : GxR.TabG G T1
  t2 : GxR.TabG G T2
section
variable {l d T1 T2 : Addr} {G G' : Hp}
theorem Bs.mono (b : Bs l d T1 T2 G) (s : Same G G') : Bs l d T1 T2 G' :=
  ⟨s _ _ b.lst, let ⟨x, y, z, e⟩ := b.dice; ⟨x, y, z, s _ _ e⟩, let ⟨ps, e, h⟩ := b.t1; ⟨ps, s _ _ e, h⟩, let ⟨ps, e, h⟩ := b.t2; ⟨ps, s _ _ e, h⟩⟩
/-- another thing is written -/
theorem Bs.set (b : Bs l d T1 T2 G) {c : Addr} {o : HO} (h1 : c ≠ l) (h2 : c ≠ d) (h3 : c ≠ T1) (h4 : c ≠ T2) : Bs l d T1 T2 (upd G c o) :=
  ⟨by rw [upd_ne (Ne.symm h1)]; exact b.lst, let ⟨x, y, z, e⟩ := b.dice; ⟨x, y, z, by rw [upd_ne (Ne.symm h2)]; exact e⟩, let ⟨ps, e, h⟩ := b.t1; ⟨ps, by rw [upd_ne (Ne.symm h3)]; exact e, h⟩, let ⟨ps, e, h⟩ := b.t2; ⟨ps, by rw [upd_ne (Ne.symm h4)]; exact e, h⟩⟩
theorem Bs.ld (b : Bs l d T1 T2 G) : l ≠ d := let ⟨x, y, z, e⟩ := b.dice; ne_of b.lst e (by unfold D3; intro z; injection z with z; injection z with z1 z2; cases z1)
theorem Bs.roll (b : Bs l d T1 T2 G) (x y z : Int) : Bs l d T1 T2 (upd G d (D3 x y z)) := by
  obtain ⟨x0, y0, z0, e0⟩ := b.dice
  obtain ⟨ps, e1, h1⟩ := b.t1
  obtain ⟨ps2, e2, h2⟩ := b.t2
  refine ⟨by rw [upd_ne b.ld]; exact b.lst, ⟨x, y, z, upd_same⟩, ⟨ps, ?_, h1⟩, ⟨ps2, ?_, h2⟩⟩
  · rw [upd_ne (ne_of e1 e0 (by unfold D3; intro z; cases z))]; exact e1
  · rw [upd_ne (ne_of e2 e0 (by unfold D3; intro z; cases z))]; exact e2
/-- all that the law's own list and the tables are not -/
structure Apart (l d T1 T2 c : Addr) : Prop where
  h1 : c ≠ l
  h2 : c ≠ d
  h3 : c ≠ T1
  h4 : c ≠ T2
theorem Bs.fresh (b : Bs l d T1 T2 G) {c : Addr} (n : G c = none) : Apart l d T1 T2 c :=
  ⟨Ne.symm (ne_of_none b.lst n), let ⟨_, _, _, e⟩ := b.dice; Ne.symm (ne_of_none e n), let ⟨_, e, _⟩ := b.t1; Ne.symm (ne_of_none e n), let ⟨_, e, _⟩ := b.t2; Ne.symm (ne_of_none e n)⟩
theorem Bs.setA (b : Bs l d T1 T2 G) {c : Addr} {o : HO} (a : Apart l d T1 T2 c) : Bs l d T1 T2 (upd G c o) := b.set a.h1 a.h2 a.h3 a.h4
end
end K44

set_option Elab.async false
set_option maxRecDepth 100000
set_option pp.maxSteps 600
set_option linter.all false
namespace K44
open PySem L2
/-- the law's slots, each as it stands -/
abbrev SG (scr dice many spr arr left turn one gate num slot slots sent cell ideal whn fst cells : Option V) : L2.St := [scr, dice, many, spr, arr, left, turn, one, gate, num, slot, slots, sent, cell, ideal, whn, fst, cells, none]
section
variable {P : Program} {w : World} {K : PySem.W.Frag} {mg : Str → Option Value} {base : Heap} {f : Addr} {cdv : Value} {A : Around} {outer : List Env} {s : Shared} {H0 : Hp} {E : XK} {C I l d T1 T2 : Addr}
/-! ### many -/
def P1 (l d T1 T2 : Addr) (σ : L2.St) (H : Hp) : Prop := ∃ scr, σ = SG scr (some (.ref d)) none none none none none none none none none none none none none none none none ∧ Bs l d T1 T2 H
def P2 (l d T1 T2 : Addr) (σ : L2.St) (H : Hp) : Prop := ∃ scr, ∃ m : Nat, σ = SG scr (some (.ref d)) (some (.int m)) none none none none none none none none none none none none none none none ∧ 1 ≤ m ∧ m ≤ 3 ∧ Bs l d T1 T2 H
theorem st0 (hr : Room 3 (XL P w K mg base f cdv A outer s H0 E).A) (cr : C8.Cal P w K mg base 1 "_law_roll" spRoll []) : PS (XL P w K mg base f cdv A outer s H0 E) (lawIn 0) (tHo (P1 l d T1 T2) (P2 l d T1 T2)) := by
  refine ps_ho (ps_set (i := 2) scLaw.nd rfl (Or.inl rfl) (pe_op op_add pe_int (C8.pe_c cr hr (by decide) rfl (pa_cons (pv 1) (pa_cons pe_int pa_nil))))) ?_
  rintro D σ H ⟨scr, rfl, b⟩ k
  obtain ⟨x, y, z, e⟩ := b.dice
  refine ⟨_, rfl, d, 3, x, y, z, rfl, by decide, by decide, e, fun x' y' z' r hr' => ⟨_, _, rfl, rfl, ?_⟩⟩
  refine k _ _ ⟨scr, 1 + r, ?_, by omega, by omega, b.roll x' y' z'⟩
  have e1 : ((1 + r : Nat) : Int) = (1 : Int) + (r : Int) := by omega
  rw [e1]
  rfl
/-! ### the Spread, the two lists -/
def P3 (C l d T1 T2 : Addr) (σ : L2.St) (H : Hp) : Prop := ∃ scr, ∃ m : Nat, ∃ (ad : Ky → Addr) (G : Hp) (ar lf : Addr), σ = SG scr (some (.ref d)) (some (.int m)) (some (.ref (ad .ins))) (some (.ref ar)) (some (.ref lf)) none none none none none none none none none none none none ∧
  1 ≤ m ∧ m ≤ 3 ∧ Bs l d T1 T2 G ∧ (∀ ca, At C m ca ad (init m) G H) ∧ G ar = some (.lst []) ∧ G lf = some (.lst []) ∧ ar ≠ lf ∧ Apart l d T1 T2 ar ∧ Apart l d T1 T2 lf
theorem st1 (hr : Room 3 (XL P w K mg base f cdv A outer s H0 E).A) (mk : C8.Mak P w K mg base 1 "Spread" C (spInit C) []) : PS (XL P w K mg base f cdv A outer s H0 E) (lawIn 1) (tHo (P2 l d T1 T2) (P3 C l d T1 T2)) := by
  refine ps_ho (ps_par3 (i := 3) (j := 4) (l := 5) rfl scLaw.nd rfl rfl rfl (by decide) (by decide) (by decide) rfl rfl rfl
    (pa_cons (C8.pe_mk mk hr (by decide) rfl (pa_cons (pv 2) pa_nil)) (pa_cons (pe_lst pa_nil) (pa_cons (pe_lst pa_nil) pa_nil))) rfl) ?_
  rintro D σ H ⟨scr, m, rfl, h1, h2, b⟩ k
  refine ⟨_, rfl, fun p dx np ndx hne => ⟨p, dx, m, rfl, by omega, upd_same, fun H1 ad hrep hp keep hnew => ⟨rfl, ?_⟩⟩⟩
  subst hp
  have s1 : Same H H1 := fun c o e => keep c o (by rw [upd_ne (ne_of_none e np), upd_ne (ne_of_none e ndx)]; exact e) (ne_of_none e np)
  have a : ∀ ca, At C m ca ad (init m) H H1 := fun ca => ⟨hrep ca, s1, fun q hq => by
    by_cases h : q = .ins
    · rw [h]; exact np
    · have z := hnew q hq h
      have n1 : ad q ≠ ad .ins := fun y => h ((hrep ca).inj q .ins hq trivial y)
      rw [upd_ne n1] at z
      by_cases n2 : ad q = dx
      · rw [n2]; exact ndx
      · rw [upd_ne n2] at z; exact z⟩
  refine ⟨Nat.zero_le _, fun ar nar => ⟨Nat.zero_le _, fun lf nlf => ⟨_, _, _, rfl, ?_⟩⟩⟩
  have a1 := fun ca => (a ca).new (o := .lst []) nar
  have a2 := fun ca => (a1 ca).new (o := .lst []) nlf
  have n1 := (a fun _ => .non).free nar
  have n2 := (a1 fun _ => .non).free nlf
  have b1 : Bs l d T1 T2 (upd H ar (.lst [])) := b.mono (same_new n1)
  refine k _ _ ⟨scr, m, ad, _, ar, lf, rfl, h1, h2, b1.mono (same_new n2), a2, ?_, upd_same, ne_of_none upd_same nlf, b.fresh n1, b1.fresh n2⟩
  rw [upd_ne (ne_of_none upd_same n2), upd_same]
/-! ### the streams -/
def PairsV (G : Hp) (lv : List V) (ps : List (Nat × Nat)) : Prop := Paired (fun v (p : Nat × Nat) => TupV G v [.int (p.1 : Nat), .int (p.2 : Nat)]) lv ps
theorem PairsV.mono {G G' : Hp} {lv : List V} {ps : List (Nat × Nat)} (t : Tups G G') (h : PairsV G lv ps) : PairsV G' lv ps := pair_mono h fun _ _ z => z.mono t
theorem leftOf_snoc (m : Nat) (gs : List Nat) (g : Nat) : leftOf m (gs ++ [g]) = leftOf m gs ++ [(gs.length % m, g)] := by
  unfold leftOf
  rw [List.length_append, List.length_singleton, List.range_succ, List.zip_append (by rw [List.length_range]), List.map_append]
  rfl
theorem leftOf_len (m : Nat) (gs : List Nat) : (leftOf m gs).length = gs.length := by
  unfold leftOf
  rw [List.length_map, List.length_zip, List.length_range, Nat.min_self]
def P4 (C l d T1 T2 : Addr) (σ : L2.St) (H : Hp) : Prop := ∃ scr v6, ∃ m : Nat, ∃ (gs : List Nat) (ad : Ky → Addr) (G : Hp) (ar lf : Addr) (lv : List V), σ = SG scr (some (.ref d)) (some (.int m)) (some (.ref (ad .ins))) (some (.ref ar)) (some (.ref lf)) v6 none none none none none none none none none none none ∧
  1 ≤ m ∧ m ≤ 3 ∧ gs.length ≤ 3 ∧ (∀ g ∈ gs, g < m) ∧ Bs l d T1 T2 G ∧ (∀ ca, At C m ca ad (init m) G H) ∧ G ar = some (.lst []) ∧ G lf = some (.lst lv) ∧ PairsV G lv (leftOf m gs) ∧ ar ≠ lf ∧ Apart l d T1 T2 ar ∧ Apart l d T1 T2 lf
theorem st2 (hr : Room 3 (XL P w K mg base f cdv A outer s H0 E).A) (T : Txt K mg C I) (cr : C8.Cal P w K mg base 1 "_law_roll" spRoll []) : PS (XL P w K mg base f cdv A outer s H0 E) (lawIn 2) (tHo (P3 C l d T1 T2) (P4 C l d T1 T2)) := by
  refine ps_ho (ps_for PassesOwn.never rfl (pi_range1 rfl T.range (pa_cons (C8.pe_c cr hr (by decide) rfl (pa_cons (pv 1) (pa_cons pe_int pa_nil))) pa_nil)) (pg_name (i := 6) scLaw.nd rfl (Or.inl rfl))
    (pss_one (ps_expr (pe_bm PySem.F.plainAttrs_list PySem.F.slot_list_append PySem.F.type_list_append mt_append (pv 5) (pa_cons (pe_tup (pa_cons (pe_op op_mod (pv 6) (pv 2)) (pa_cons (C8.pe_c cr hr (by decide) rfl (pa_cons (pv 1) (pa_cons (pv 2) pa_nil))) pa_nil))) pa_nil))))) ?_
  rintro D σ H ⟨scr, m, ad, G, ar, lf, rfl, h1, h2, b, a, har, hlf, ne, pa, pl⟩ k
  obtain ⟨x, y, z, e⟩ := b.dice
  have hd : ∀ {G H : Hp} {x y z : Int}, (∀ ca, At C m ca ad (init m) G H) → G d = some (D3 x y z) → ∀ x' y' z', ∀ ca, At C m ca ad (init m) (upd G d (D3 x' y' z')) (upd H d (D3 x' y' z')) := fun a e x' y' z' ca => (a ca).set e (by unfold D3; intro xs q; cases q)
  refine ⟨_, rfl, d, 4, x, y, z, rfl, by decide, by decide, (a fun _ => .non).same _ _ e, fun x' y' z' n hn => ⟨(n : Int), rfl, by omega, by omega, ?_⟩⟩
  rw [Int.toNat_natCast]
  have a1 := hd a e x' y' z'
  have b1 := b.roll x' y' z'
  have har1 : upd G d (D3 x' y' z') ar = some (.lst []) := by rw [upd_ne pa.h2]; exact har
  have hlf1 : upd G d (D3 x' y' z') lf = some (.lst []) := by rw [upd_ne pl.h2]; exact hlf
  generalize upd G d (D3 x' y' z') = G1 at a1 b1 har1 hlf1
  generalize upd H d (D3 x' y' z') = H1 at a1 ⊢
  refine for_range (lo := 0) (n := n) (fun i σ H' => ∃ (v6 : Option V) (gs : List Nat) (G : Hp) (lv : List V), σ = SG scr (some (.ref d)) (some (.int m)) (some (.ref (ad .ins))) (some (.ref ar)) (some (.ref lf)) v6 none none none none none none none none none none none ∧ gs.length = i ∧ (∀ g ∈ gs, g < m) ∧
      Bs l d T1 T2 G ∧ (∀ ca, At C m ca ad (init m) G H') ∧ G ar = some (.lst []) ∧ G lf = some (.lst lv) ∧ PairsV G lv (leftOf m gs))
    ⟨none, [], G1, [], rfl, rfl, fun g hg => (by cases hg), b1, a1, har1, hlf1, .nil⟩ ?_ ?_
  · rintro i σ H' hi ⟨v6, gs, G, lv, rfl, hgl, hgm, b, a, har, hlf, pv⟩
    rw [Int.zero_add]
    obtain ⟨x, y, z, e⟩ := b.dice
    have a0 := a fun _ => .non
    refine ⟨_, rfl, .inl ⟨rfl, _, SqL.of (a0.same _ _ hlf)⟩, _, rfl, _, rfl, _, _, rfl, rfl, (by omega), _, rfl, _, rfl, d, m, x, y, z, rfl, by omega, by omega, a0.same _ _ e, fun x' y' z' g hg => ?_⟩
    have a1 := hd a e x' y' z'
    have b1 := b.roll x' y' z'
    have har1 : upd G d (D3 x' y' z') ar = some (.lst []) := by rw [upd_ne pa.h2]; exact har
    have hlf1 : upd G d (D3 x' y' z') lf = some (.lst lv) := by rw [upd_ne pl.h2]; exact hlf
    have pv1 : PairsV (upd G d (D3 x' y' z')) lv (leftOf m gs) := pv.mono (Tups.lst e)
    generalize upd G d (D3 x' y' z') = G1 at a1 b1 har1 hlf1 pv1
    generalize upd H' d (D3 x' y' z') = H1 at a1 ⊢
    refine ⟨(by show (2 : Nat) ≤ sizeLine; decide), fun t nt => ?_⟩
    have nG := (a1 fun _ => .non).free nt
    have a2 := fun ca => (a1 ca).new (o := .tup [.int ((i : Int) % (m : Int)), .int (g : Nat)]) nt
    have sG : Same G1 (upd G1 t (.tup [.int ((i : Int) % (m : Int)), .int (g : Nat)])) := same_new nG
    have ht : upd G1 t (.tup [.int ((i : Int) % (m : Int)), .int (g : Nat)]) t = some (.tup [.int ((i : Int) % (m : Int)), .int (g : Nat)]) := upd_same
    have b2 := b1.mono sG
    generalize upd G1 t (.tup [.int ((i : Int) % (m : Int)), .int (g : Nat)]) = G2 at a2 sG ht b2
    generalize upd H1 t (.tup [.int ((i : Int) % (m : Int)), .int (g : Nat)]) = H2 at a2 ⊢
    have hlf2 := sG _ _ hlf1
    have har2 := sG _ _ har1
    have hll : lv.length = gs.length := by rw [pair_len pv1, leftOf_len]
    refine ⟨lf, lv, _, rfl, rfl, (a2 fun _ => .non).same _ _ hlf2, Nat.lt_of_lt_of_le (by omega : lv.length < 1000) (by decide), ?_⟩
    refine ⟨_, gs ++ [g], upd G2 lf (.lst (lv ++ [.ref t])), lv ++ [.ref t], rfl, by rw [List.length_append, hgl]; rfl, fun q hq => ?_, b2.setA pl, fun ca => (a2 ca).set hlf2 (by intro xs q; cases q), by rw [upd_ne ne]; exact har2, upd_same, ?_⟩
    · rcases List.mem_append.mp hq with h | h
      · exact hgm q h
      · have : q = g := by simpa using h
        rw [this]; exact hg
    · rw [leftOf_snoc]
      refine pair_app (pv1.mono (Tups.trans (Tups.same sG) (Tups.lst hlf2))) ⟨t, rfl, ?_⟩
      rw [upd_ne (ne_of ht hlf2 (by intro q; cases q)), ht]
      have e1 : ((gs.length % m : Nat) : Int) = (i : Int) % (m : Int) := by rw [hgl]; norm_cast
      rw [e1]
  · rintro σ H' ⟨v6, gs, G, lv, rfl, hgl, hgm, b, a, har, hlf, pv⟩
    exact k _ _ ⟨scr, v6, m, gs, ad, G, ar, lf, lv, rfl, h1, h2, by omega, hgm, b, a, har, hlf, pv, ne, pa, pl⟩
end
end K44

set_option Elab.async false
set_option maxRecDepth 100000
set_option pp.maxSteps 600
set_option linter.all false
namespace K44
open PySem L2
/-! ### the arrivals -/
abbrev cOf (tk : Nat → Addr) : Nat → V := fun k => V.ref (tk k)
structure AI (G : Hp) (arr : List (Nat × Nat)) (ar : Addr) (al am tk : Nat → Addr) : Prop where
  aa : Arr (cOf tk) arr ar al am G
  cell : ∀ (k : Nat) (p : Nat × Nat), arr[k]? = some p → G (tk k) = some (.tup [.int (k : Nat), .int (p.1 : Nat)])
  ne : ∀ k, k < arr.length → al k ≠ ar
theorem AI.mono {G G' : Hp} {arr : List (Nat × Nat)} {ar : Addr} {al am tk : Nat → Addr} (a : AI G arr ar al am tk) (s : Same G G') : AI G' arr ar al am tk :=
  ⟨a.aa.mono s, fun k p e => s _ _ (a.cell k p e), a.ne⟩
def ext1 (f : Nat → Addr) (n : Nat) (q : Addr) : Nat → Addr := fun k => if k = n then q else f k
theorem ext1_at {f : Nat → Addr} {n : Nat} {q : Addr} : ext1 f n q n = q := if_pos rfl
theorem ext1_old {f : Nat → Addr} {n k : Nat} {q : Addr} (h : k < n) : ext1 f n q k = f k := if_neg (by omega)
theorem snoc_at {α : Type} {l : List α} {x y : α} {k : Nat} (h : (l ++ [x])[k]? = some y) : (k < l.length ∧ l[k]? = some y) ∨ (k = l.length ∧ y = x) := by
  by_cases hk : k < l.length
  · rw [List.getElem?_append_left hk] at h; exact .inl ⟨hk, h⟩
  · rw [List.getElem?_append_right (by omega)] at h
    cases e : k - l.length with
    | zero => rw [e] at h; exact .inr ⟨by omega, (Option.some.inj h).symm⟩
    | succ j => rw [e] at h; cases h
theorem AI.snoc {G : Hp} {arr : List (Nat × Nat)} {ar : Addr} {al am tk : Nat → Addr} (a : AI G arr ar al am tk) {p : Nat × Nat} {c t q : Addr} {Gn : Hp} (sm : Same G Gn) (hc : Gn c = some (.tup [.int (arr.length : Nat), .int (p.1 : Nat)]))
    (ht : Gn t = some (.tup [.int (p.1 : Nat), .int (p.2 : Nat), .ref c])) (hq : Gn q = some (.lst [.ref t])) (qar : q ≠ ar) :
    AI (upd Gn ar (.lst (refs arr.length al ++ [.ref q]))) (arr ++ [p]) ar (ext1 al arr.length q) (ext1 am arr.length t) (ext1 tk arr.length c) := by
  have har := sm _ _ a.aa.lst
  have tu : Tups Gn (upd Gn ar (.lst (refs arr.length al ++ [.ref q]))) := Tups.lst har
  refine ⟨⟨?_, fun k hk => ?_, fun k r e => ?_⟩, fun k r e => ?_, fun k hk => ?_⟩
  · rw [upd_same, List.length_append, List.length_singleton, refs_snoc (f' := ext1 al arr.length q) ext1_at fun i hi => ext1_old hi]
  · rw [List.length_append, List.length_singleton] at hk
    by_cases h : k = arr.length
    · rw [h, ext1_at, ext1_at, upd_ne qar]; exact hq
    · rw [ext1_old (by omega), ext1_old (by omega), upd_ne (a.ne k (by omega))]
      exact sm _ _ (a.aa.row k (by omega))
  · rcases snoc_at e with ⟨h1, h2⟩ | ⟨h1, h2⟩
    · show upd _ _ _ _ = some (.tup [_, _, V.ref (ext1 tk arr.length c k)])
      rw [ext1_old h1, ext1_old h1]
      exact tu _ _ (sm _ _ (a.aa.tup k r h2))
    · show upd _ _ _ _ = some (.tup [_, _, V.ref (ext1 tk arr.length c k)])
      rw [h1, h2, ext1_at, ext1_at]
      exact tu _ _ ht
  · rcases snoc_at e with ⟨h1, h2⟩ | ⟨h1, h2⟩
    · rw [ext1_old h1]
      exact tu _ _ (sm _ _ (a.cell k r h2))
    · rw [h1, h2, ext1_at]
      exact tu _ _ hc
  · rw [List.length_append, List.length_singleton] at hk
    by_cases h : k = arr.length
    · rw [h, ext1_at]; exact qar
    · rw [ext1_old (by omega)]; exact a.ne k (by omega)
theorem arrive_step {m i : Nat} {L : List (Nat × Nat)} {p : Nat × Nat} (h : L[i]? = some p) : arrive m (L.take (i + 1)) = arrive m (L.take i) ++ List.replicate m p := by
  unfold arrive
  rw [List.take_add_one, h]
  simp
section
variable {P : Program} {w : World} {K : PySem.W.Frag} {mg : Str → Option Value} {base : Heap} {f : Addr} {cdv : Value} {A : Around} {outer : List Env} {s : Shared} {H0 : Hp} {E : XK} {C I l d T1 T2 : Addr}
def P5 (C l d T1 T2 : Addr) (σ : L2.St) (H : Hp) : Prop := ∃ scr v5 v6 v7 v8 v9 v10, ∃ m : Nat, ∃ (gs : List Nat) (ad : Ky → Addr) (G : Hp) (ar : Addr) (al am tk : Nat → Addr), σ = SG scr (some (.ref d)) (some (.int m)) (some (.ref (ad .ins))) (some (.ref ar)) v5 v6 v7 v8 v9 v10 none none none none none none none ∧
  1 ≤ m ∧ m ≤ 3 ∧ gs.length ≤ 3 ∧ (∀ g ∈ gs, g < m) ∧ Bs l d T1 T2 G ∧ (∀ ca, At C m ca ad (init m) G H) ∧ AI G (arrive m (leftOf m gs)) ar al am tk
theorem st3 (T : Txt K mg C I) : PS (XL P w K mg base f cdv A outer s H0 E) (lawIn 3) (tHo (P4 C l d T1 T2) (P5 C l d T1 T2)) := by
  refine ps_ho (ps_for PassesOwn.never rfl (pi_list (pv 5)) (pg_tup rfl (pgs_cons (pg_name (i := 7) scLaw.nd rfl (Or.inl rfl)) (pgs_cons (pg_name (i := 8) scLaw.nd rfl (Or.inl rfl)) pgs_nil)))
    (pss_one (ps_for PassesOwn.never rfl (pi_range1 rfl T.range (pa_cons (pv 2) pa_nil)) (pg_name (i := 9) scLaw.nd rfl (Or.inl rfl))
      (pss_cons (ps_set (i := 10) scLaw.nd rfl (Or.inl rfl) (pe_callB call_len_seq (by rfl) T.len PySem.boot_len (pa_cons (pv 4) pa_nil)))
      (pss_one (ps_expr (pe_bm PySem.F.plainAttrs_list PySem.F.slot_list_append PySem.F.type_list_append mt_append (pv 4)
        (pa_cons (pe_lst (pa_cons (pe_tup (pa_cons (pv 7) (pa_cons (pv 8) (pa_cons (pe_tup (pa_cons (pv 10) (pa_cons (pv 7) pa_nil))) pa_nil)))) pa_nil)) pa_nil)))))))) ?_
  rintro D σ H ⟨scr, v6, m, gs, ad, G, ar, lf, lv, rfl, h1, h2, hgl, hgm, b, a, har, hlf, pv0, ne, pa, pl⟩ k
  have hlen : lv.length = gs.length := by rw [pair_len pv0, leftOf_len]
  have a0 : AI G [] ar (fun _ => 0) (fun _ => 0) (fun _ => 0) := ⟨⟨har, fun k hk => absurd hk (Nat.not_lt_zero k), fun k p e => by cases e⟩, fun k p e => (by cases e), fun k hk => absurd hk (Nat.not_lt_zero k)⟩
  refine ⟨_, rfl, lf, rfl, ⟨_, SqL.of ((a fun _ => .non).same _ _ hlf)⟩, for_list (K := K) (a := lf) (xs := lv)
    (fun i σ H' => ∃ (v7 v8 v9 v10 : Option V) (G' : Hp) (al am tk : Nat → Addr), σ = SG scr (some (.ref d)) (some (.int m)) (some (.ref (ad .ins))) (some (.ref ar)) (some (.ref lf)) v6 v7 v8 v9 v10 none none none none none none none ∧
      Bs l d T1 T2 G' ∧ (∀ ca, At C m ca ad (init m) G' H') ∧ Tups G G' ∧ G' lf = some (.lst lv) ∧ AI G' (arrive m ((leftOf m gs).take i)) ar al am tk ∧ (arrive m ((leftOf m gs).take i)).length ≤ 3 * i)
    ⟨none, none, none, none, G, _, _, _, rfl, b, a, fun _ _ e => e, hlf, a0, Nat.le_refl _⟩ (fun i σ H' _ h => ?_) ?_ ?_⟩
  · obtain ⟨_, _, _, _, G', _, _, _, _, _, a, _, hlf, _⟩ := h
    exact SqL.of ((a fun _ => .non).same _ _ hlf)
  · rintro i x σ H' hi ⟨v7, v8, v9, v10, G', al, am, tk, rfl, b, a, tG, hlf, ai, hle⟩
    have hil : i < lv.length := (List.getElem?_eq_some_iff.mp hi).1
    obtain ⟨p, hp⟩ : ∃ p, (leftOf m gs)[i]? = some p := ⟨(leftOf m gs)[i]'(by rw [leftOf_len]; omega), List.getElem?_eq_getElem _⟩
    obtain ⟨t, rfl, ht⟩ : TupV G x [.int (p.1 : Nat), .int (p.2 : Nat)] := pair_at (F := fun v (p : Nat × Nat) => TupV G v [.int (p.1 : Nat), .int (p.2 : Nat)]) pv0 hi hp
    refine ⟨t, _, rfl, SqT.of ((a fun _ => .non).same _ _ (tG _ _ ht)), rfl, _, _, rfl, _, _, rfl, rfl, ?_⟩
    refine ⟨_, rfl, (m : Int), rfl, by omega, by omega, ?_⟩
    rw [Int.toNat_natCast]
    refine for_range (lo := 0) (n := m) (fun j σ H' => ∃ (v9 v10 : Option V) (G' : Hp) (al am tk : Nat → Addr), σ = SG scr (some (.ref d)) (some (.int m)) (some (.ref (ad .ins))) (some (.ref ar)) (some (.ref lf)) v6 (some (.int (p.1 : Nat))) (some (.int (p.2 : Nat))) v9 v10 none none none none none none none ∧
      Bs l d T1 T2 G' ∧ (∀ ca, At C m ca ad (init m) G' H') ∧ Tups G G' ∧ G' lf = some (.lst lv) ∧ AI G' (arrive m ((leftOf m gs).take i) ++ List.replicate j p) ar al am tk)
      ⟨v9, v10, G', al, am, tk, rfl, b, a, tG, hlf, by rw [List.replicate_zero, List.append_nil]; exact ai⟩ ?_ ?_
    · rintro j σ H' hj ⟨v9, v10, G', al, am, tk, rfl, b, a, tG, hlf, ai⟩
      rw [Int.zero_add]
      have hL : (arrive m ((leftOf m gs).take i) ++ List.replicate j p).length ≤ 12 := by
        rw [List.length_append, List.length_replicate]; omega
      have ej : arrive m ((leftOf m gs).take i) ++ List.replicate (j + 1) p = (arrive m ((leftOf m gs).take i) ++ List.replicate j p) ++ [p] := by
        rw [List.append_assoc, List.replicate_succ']
      have fin : ∀ {σ' : L2.St} {H2 G2 : Hp} {al am tk : Nat → Addr} {v9 v10 : Option V}, σ' = SG scr (some (.ref d)) (some (.int m)) (some (.ref (ad .ins))) (some (.ref ar)) (some (.ref lf)) v6 (some (.int (p.1 : Nat))) (some (.int (p.2 : Nat))) v9 v10 none none none none none none none →
          Bs l d T1 T2 G2 → (∀ ca, At C m ca ad (init m) G2 H2) → Tups G G2 → G2 lf = some (.lst lv) → AI G2 ((arrive m ((leftOf m gs).take i) ++ List.replicate j p) ++ [p]) ar al am tk →
          ∃ (v9 v10 : Option V) (G' : Hp) (al am tk : Nat → Addr), σ' = SG scr (some (.ref d)) (some (.int m)) (some (.ref (ad .ins))) (some (.ref ar)) (some (.ref lf)) v6 (some (.int (p.1 : Nat))) (some (.int (p.2 : Nat))) v9 v10 none none none none none none none ∧
            Bs l d T1 T2 G' ∧ (∀ ca, At C m ca ad (init m) G' H2) ∧ Tups G G' ∧ G' lf = some (.lst lv) ∧ AI G' (arrive m ((leftOf m gs).take i) ++ List.replicate (j + 1) p) ar al am tk :=
        fun {σ' H2 G2 al am tk v9 v10} e1 e2 e3 e4 e5 e6 => ⟨v9, v10, G2, al, am, tk, e1, e2, e3, e4, e5, by rw [ej]; exact e6⟩
      generalize arrive m ((leftOf m gs).take i) ++ List.replicate j p = arr at ai hL fin
      have hlst := (a fun _ => .non).same _ _ ai.aa.lst
      refine ⟨_, rfl, ar, _, rfl, .inl (SqL.of hlst), ?_⟩
      rw [refs_len]
      refine ⟨_, rfl, .inl ⟨rfl, _, SqL.of hlst⟩, _, rfl, _, rfl, _, rfl, _, rfl, (by show (2 : Nat) ≤ sizeLine; decide), fun c nc => ⟨(by show (3 : Nat) ≤ sizeLine; decide), fun t2 nt => ⟨(by show (1 : Nat) ≤ sizeLine; decide), fun q nq => ?_⟩⟩⟩
      have a1 := fun ca => (a ca).new (o := .tup [.int (arr.length : Nat), .int (p.1 : Nat)]) nc
      have a2 := fun ca => (a1 ca).new (o := .tup [.int (p.1 : Nat), .int (p.2 : Nat), .ref c]) nt
      have a3 := fun ca => (a2 ca).new (o := .lst [.ref t2]) nq
      have n1 := (a fun _ => .non).free nc
      have n2 := (a1 fun _ => .non).free nt
      have n3 := (a2 fun _ => .non).free nq
      have sG : Same G' (upd (upd (upd G' c (.tup [.int (arr.length : Nat), .int (p.1 : Nat)])) t2 (.tup [.int (p.1 : Nat), .int (p.2 : Nat), .ref c])) q (.lst [.ref t2])) := ((same_new n1).trans (same_new n2)).trans (same_new n3)
      have hq : upd (upd (upd G' c (.tup [.int (arr.length : Nat), .int (p.1 : Nat)])) t2 (.tup [.int (p.1 : Nat), .int (p.2 : Nat), .ref c])) q (.lst [.ref t2]) q = some (.lst [.ref t2]) := upd_same
      have ht2 : upd (upd (upd G' c (.tup [.int (arr.length : Nat), .int (p.1 : Nat)])) t2 (.tup [.int (p.1 : Nat), .int (p.2 : Nat), .ref c])) q (.lst [.ref t2]) t2 = some (.tup [.int (p.1 : Nat), .int (p.2 : Nat), .ref c]) := by
        rw [upd_ne (ne_of_none upd_same n3), upd_same]
      have hc : upd (upd (upd G' c (.tup [.int (arr.length : Nat), .int (p.1 : Nat)])) t2 (.tup [.int (p.1 : Nat), .int (p.2 : Nat), .ref c])) q (.lst [.ref t2]) c = some (.tup [.int (arr.length : Nat), .int (p.1 : Nat)]) :=
        (same_new n3) _ _ ((same_new n2) _ _ upd_same)
      generalize upd (upd (upd G' c (.tup [.int (arr.length : Nat), .int (p.1 : Nat)])) t2 (.tup [.int (p.1 : Nat), .int (p.2 : Nat), .ref c])) q (.lst [.ref t2]) = G3 at a3 sG hq ht2 hc
      generalize upd (upd (upd H' c (.tup [.int (arr.length : Nat), .int (p.1 : Nat)])) t2 (.tup [.int (p.1 : Nat), .int (p.2 : Nat), .ref c])) q (.lst [.ref t2]) = H3 at a3 ⊢
      have har3 := sG _ _ ai.aa.lst
      have qar : q ≠ ar := Ne.symm (ne_of_none ((same_new n2) _ _ ((same_new n1) _ _ ai.aa.lst)) n3)
      refine ⟨ar, _, _, rfl, rfl, (a3 fun _ => .non).same _ _ har3, Nat.lt_of_lt_of_le (by rw [refs_len]; omega : (refs arr.length al).length < 1000) (by decide), ?_⟩
      exact fin rfl ((b.mono sG).setA pa) (fun ca => (a3 ca).set har3 (by intro xs z; cases z)) (Tups.trans tG (Tups.trans (Tups.same sG) (Tups.lst har3))) (by rw [upd_ne (Ne.symm ne)]; exact sG _ _ hlf) (ai.snoc sG hc ht2 hq qar)
    · rintro σ H' ⟨v9, v10, G', al, am, tk, rfl, b, a, tG, hlf, ai⟩
      refine ⟨_, _, _, _, G', al, am, tk, rfl, b, a, tG, hlf, by rw [arrive_step hp]; exact ai, ?_⟩
      rw [arrive_step hp, List.length_append, List.length_replicate]
      omega
  · rintro σ H' ⟨v7, v8, v9, v10, G', al, am, tk, rfl, b, a, tG, hlf, ai, hle⟩
    rw [hlen, ← leftOf_len m gs, List.take_length] at ai
    exact k _ _ ⟨scr, _, v6, v7, v8, v9, v10, m, gs, ad, G', ar, al, am, tk, rfl, h1, h2, hgl, hgm, b, a, ai⟩
end
end K44

set_option Elab.async false
set_option maxRecDepth 100000
set_option pp.maxSteps 600
set_option linter.all false
namespace K44
open PySem L2
theorem flat_len {m : Nat} : ∀ (L : List (Nat × Nat)), (arrive m L).length = L.length * m
  | [] => by show 0 = 0 * m; rw [Nat.zero_mul]
  | p :: L => by
    have ih := flat_len (m := m) L
    unfold arrive at ih ⊢
    rw [List.flatMap_cons, List.length_append, List.length_replicate, ih, List.length_cons, Nat.succ_mul, Nat.add_comm]
theorem arr_len {m : Nat} {gs : List Nat} (h2 : m ≤ 3) (hl : gs.length ≤ 3) : (arrive m (leftOf m gs)).length ≤ 9 := by
  rw [flat_len, leftOf_len]
  exact Nat.le_trans (Nat.mul_le_mul hl h2) (by decide)
theorem arr_lt {m : Nat} {gs : List Nat} (h1 : 1 ≤ m) (hg : ∀ g ∈ gs, g < m) : ∀ (k : Nat) (p : Nat × Nat), (arrive m (leftOf m gs))[k]? = some p → p.1 < m ∧ p.2 < m := by
  intro k p e
  have hm := List.mem_of_getElem? e
  unfold arrive at hm
  obtain ⟨q, hq, hp⟩ := List.mem_flatMap.mp hm
  have := (List.mem_replicate.mp hp).2
  subst this
  unfold leftOf at hq
  obtain ⟨r, hr, rfl⟩ := List.mem_map.mp hq
  refine ⟨Nat.mod_lt _ (by omega), hg _ ?_⟩
  exact (List.of_mem_zip hr).2
def SentV (ca : Nat → V) (G : Hp) (sv : List V) (sent : List (List (Nat × Nat × Nat))) : Prop := Paired (fun v row => ∃ (q : Addr) (xs : List V), v = V.ref q ∧ G q = some (.tup xs) ∧ Paired (OutV ca G) xs row) sv sent
theorem SentV.mono {ca : Nat → V} {G G' : Hp} {sv : List V} {sent : List (List (Nat × Nat × Nat))} (t : Tups G G') (h : SentV ca G sv sent) : SentV ca G' sv sent :=
  pair_mono h fun v row ⟨q, xs, e, h1, h2⟩ => ⟨q, xs, e, t _ _ h1, pair_mono h2 fun _ _ z => TupV.mono t z⟩
/-- the cells that are put in at a slot -/
def slotPut (m : Nat) (arr : List (Nat × Nat)) (k : Nat) (s : S) : Option S :=
  match arr[k]? with
  | some (one, gate) => put m one gate k s
  | none => some s
theorem slotStep_eq {m k : Nat} {arr : List (Nat × Nat)} {p : S × List (List (Nat × Nat × Nat))} {u : S × List (List (Nat × Nat × Nat))} (h : slotStep m arr k p = some u) : ∃ s1 s2 out, slotPut m arr k p.1 = some s1 ∧ turn m s1 = some (s2, out) ∧ u = (s2, p.2 ++ [out]) := by
  have h' : (match slotPut m arr k p.1 with
    | none => none
    | some s1 => match turn m s1 with
      | none => none
      | some (s2, out) => some (s2, p.2 ++ [out])) = some u := h
  cases e1 : slotPut m arr k p.1 with
  | none => rw [e1] at h'; cases h'
  | some s1 =>
    rw [e1] at h'
    dsimp only at h'
    cases e2 : turn m s1 with
    | none => rw [e2] at h'; cases h'
    | some q =>
      obtain ⟨s2, out⟩ := q
      rw [e2] at h'
      exact ⟨s1, s2, out, rfl, e2, (Option.some.inj h').symm⟩
section
variable {P : Program} {w : World} {K : PySem.W.Frag} {mg : Str → Option Value} {base : Heap} {f : Addr} {cdv : Value} {A : Around} {outer : List Env} {s : Shared} {H0 : Hp} {E : XK} {C I l d T1 T2 : Addr}
def P6 (C l d T1 T2 : Addr) (σ : L2.St) (H : Hp) : Prop := ∃ scr v5 v6 v7 v8 v9 v10, ∃ (m N : Nat) (arr : List (Nat × Nat)) (fs : S) (sent : List (List (Nat × Nat × Nat))) (ad : Ky → Addr) (G : Hp) (ar sl : Addr) (al am tk : Nat → Addr),
  σ = SG scr (some (.ref d)) (some (.int m)) (some (.ref (ad .ins))) (some (.ref ar)) v5 v6 v7 v8 v9 v10 (some (.int N)) (some (.ref sl)) none none none none none ∧
  1 ≤ m ∧ m ≤ 3 ∧ arr.length ≤ 9 ∧ N = slotsOf m arr.length ∧ (∀ (k : Nat) (p : Nat × Nat), arr[k]? = some p → p.1 < m ∧ p.2 < m) ∧ Fine m arr fs sent ∧ Bs l d T1 T2 G ∧ (∀ ca, At C m ca ad (init m) G H) ∧ AI G arr ar al am tk ∧ G sl = some (.lst []) ∧ Apart l d T1 T2 sl ∧ sl ≠ ar ∧ ∀ k, k < arr.length → al k ≠ sl
theorem st4 (T : Txt K mg C I) : PS (XL P w K mg base f cdv A outer s H0 E) (lawIn 4) (tHo (P5 C l d T1 T2) (P6 C l d T1 T2)) := by
  refine ps_ho (ps_par (i := 11) (j := 12) rfl scLaw.nd rfl rfl (by decide) rfl rfl
    (pa_cons (pe_op op_add (pe_op op_add (pe_callB call_len_seq (by rfl) T.len PySem.boot_len (pa_cons (pv 4) pa_nil)) (pe_op op_mul (pe_op op_mul pe_int (pv 2)) (pv 2))) pe_int) (pa_cons (pe_lst pa_nil) pa_nil)) rfl) ?_
  rintro D σ H ⟨scr, v5, v6, v7, v8, v9, v10, m, gs, ad, G, ar, al, am, tk, rfl, h1, h2, hgl, hgm, b, a, ai⟩ k
  obtain ⟨fs, sent, fine⟩ := fine_of h1 h2 hgl hgm
  have hlen := arr_len h2 hgl
  have hlt := arr_lt h1 hgm
  generalize arrive m (leftOf m gs) = arr at ai fine hlen hlt
  have hlst := (a fun _ => .non).same _ _ ai.aa.lst
  refine ⟨_, rfl, ar, _, rfl, .inl (SqL.of hlst), _, rfl, _, _, rfl, rfl, .inl ⟨by decide, by decide⟩, _, rfl, _, _, rfl, rfl, .inr ⟨by omega, by omega⟩, _, _, rfl, rfl, _, _, rfl, rfl, Nat.zero_le _, fun sl nsl => ?_⟩
  refine ⟨_, _, rfl, ?_⟩
  rw [refs_len]
  have n1 := (a fun _ => .non).free nsl
  have sm : Same G (upd G sl (.lst [])) := same_new n1
  refine k _ _ ⟨scr, v5, v6, v7, v8, v9, v10, m, slotsOf m arr.length, arr, fs, sent, ad, _, ar, sl, al, am, tk, ?_, h1, h2, hlen, rfl, hlt, fine, b.mono sm, fun ca => (a ca).new nsl, ai.mono sm, upd_same, b.fresh n1, Ne.symm (ne_of_none ai.aa.lst n1), fun k hk => ne_of_none (ai.aa.row k hk) n1⟩
  have e : ((slotsOf m arr.length : Nat) : Int) = (arr.length : Int) + 8 * (m : Int) * (m : Int) + 4 := by
    unfold slotsOf; push_cast; rfl
  rw [e]
  rfl
/-! ### the slots -/
theorem no_put : ∀ (m : Nat) (w r d : Addr) (s : Nat), (fS m w r d s).lookup ("put" : Str) = none := fun m w r d s => fS_no m w r d s (by decide +kernel) (by decide +kernel) (by decide +kernel) (by decide +kernel) (by decide +kernel)
theorem no_turn : ∀ (m : Nat) (w r d : Addr) (s : Nat), (fS m w r d s).lookup ("turn" : Str) = none := fun m w r d s => fS_no m w r d s (by decide +kernel) (by decide +kernel) (by decide +kernel) (by decide +kernel) (by decide +kernel)
def P7 (C l d T1 T2 : Addr) (σ : L2.St) (H : Hp) : Prop := ∃ scr v5 v6 v7 v8 v9 v10 v13, ∃ (m N : Nat) (arr : List (Nat × Nat)) (fs : S) (sent : List (List (Nat × Nat × Nat))) (ad : Ky → Addr) (G : Hp) (ar sl : Addr) (sv : List V) (al am tk : Nat → Addr),
  σ = SG scr (some (.ref d)) (some (.int m)) (some (.ref (ad .ins))) (some (.ref ar)) v5 v6 v7 v8 v9 v10 (some (.int N)) (some (.ref sl)) v13 none none none none ∧
  m ≤ 3 ∧ arr.length ≤ 9 ∧ N = slotsOf m arr.length ∧ (∀ (k : Nat) (p : Nat × Nat), arr[k]? = some p → p.1 < m ∧ p.2 < m) ∧ Fine m arr fs sent ∧ Bs l d T1 T2 G ∧ At C m (cOf tk) ad fs G H ∧ AI G arr ar al am tk ∧ G sl = some (.lst sv) ∧ SentV (cOf tk) G sv sent
theorem slots_le {m n : Nat} (h2 : m ≤ 3) (hn : n ≤ 9) : n ≤ slotsOf m n ∧ slotsOf m n ≤ 100 := by
  unfold slotsOf
  have : 8 * m * m ≤ 8 * 3 * 3 := Nat.mul_le_mul (Nat.mul_le_mul (Nat.le_refl _) h2) h2
  omega
theorem st5 (hr : Room 3 (XL P w K mg base f cdv A outer s H0 E).A) (T : Txt K mg C I) (mp : C8.Met P w K mg base 1 C "put" (spPut C) []) (mt : C8.Met P w K mg base 2 C "turn" (spTurn C) []) :
    PS (XL P w K mg base f cdv A outer s H0 E) (lawIn 5) (tHo (P6 C l d T1 T2) (P7 C l d T1 T2)) := by
  refine ps_ho (ps_for PassesOwn.never rfl (pi_range1 rfl T.range (pa_cons (pv 11) pa_nil)) (pg_name (i := 10) scLaw.nd rfl (Or.inl rfl))
    (pss_cons (ps_for PassesOwn.never rfl (pi_list (pe_cut (pe_ifExp (pt_cmpR op_lt (pv 10) (pe_callB call_len_seq (by rfl) T.len PySem.boot_len (pa_cons (pv 4) pa_nil)) (nomark _)) (pe_ix ix_list (pv 4) (pv 10) (fun _ _ => rfl)) (pe_lst pa_nil))))
        (pg_tup rfl (pgs_cons (pg_name (i := 7) scLaw.nd rfl (Or.inl rfl)) (pgs_cons (pg_name (i := 8) scLaw.nd rfl (Or.inl rfl)) (pgs_cons (pg_name (i := 13) scLaw.nd rfl (Or.inl rfl)) pgs_nil))))
        (pss_one (ps_expr (C8.pe_mt mp hr (by decide) (pv 3) (pa_cons (pv 7) (pa_cons (pv 8) (pa_cons (pv 13) pa_nil)))))))
    (pss_one (ps_expr (pe_bm PySem.F.plainAttrs_list PySem.F.slot_list_append PySem.F.type_list_append mt_append (pv 12) (pa_cons (C8.pe_mt0 mt hr (by decide) (pv 3)) pa_nil)))))) ?_
  rintro D σ H ⟨scr, v5, v6, v7, v8, v9, v10, m, N, arr, fs, sent, ad, G, ar, sl, al, am, tk, rfl, h1, h2, hlen, hN, hlt, fine, b, a, ai, hsl, psl, nsa, nal⟩ k
  have hNb := slots_le h2 hlen
  rw [← hN] at hNb
  refine ⟨_, rfl, (N : Int), rfl, by omega, by omega, ?_⟩
  rw [Int.toNat_natCast]
  have hrun : iter (slotStep m arr) N (init m, []) = some (fs, sent) := by rw [hN]; exact fine.run
  refine for_range (lo := 0) (n := N) (fun i σ H' => ∃ (v7 v8 v10 v13 : Option V) (ad' : Ky → Addr) (G : Hp) (sv : List V) (si : S) (out : List (List (Nat × Nat × Nat))),
      σ = SG scr (some (.ref d)) (some (.int m)) (some (.ref (ad .ins))) (some (.ref ar)) v5 v6 v7 v8 v9 v10 (some (.int N)) (some (.ref sl)) v13 none none none none ∧ ad' .ins = ad .ins ∧
      iter (slotStep m arr) i (init m, []) = some (si, out) ∧ Bs l d T1 T2 G ∧ At C m (cOf tk) ad' si G H' ∧ AI G arr ar al am tk ∧ G sl = some (.lst sv) ∧ SentV (cOf tk) G sv out ∧ sv.length = i)
    ⟨v7, v8, v10, none, ad, G, [], init m, [], rfl, rfl, rfl, b, a _, ai, hsl, .nil, rfl⟩ ?_ ?_
  · rintro i σ H' hi ⟨v7, v8, v10, v13, ad', G, sv, si, out, rfl, hins, hit, b, a, ai, hsl, sv0, hsv⟩
    rw [Int.zero_add]
    obtain ⟨t, u, f1, f2, f3⟩ := iter_at hrun i hi
    obtain rfl : t = (si, out) := Option.some.inj (f1.symm.trans hit)
    obtain ⟨s1, s2, o2, hp1, hp2, rfl⟩ := slotStep_eq f2
    dsimp only at hp1 hp2 f3
    have hlst := a.same _ _ ai.aa.lst
    refine ⟨fun v H2 => ∃ (aa : Addr) (xs : List V) (G2 : Hp), v = V.ref aa ∧ At C m (cOf tk) ad' si G2 H2 ∧ Same G G2 ∧ G2 aa = some (.lst xs) ∧ (i < arr.length → xs = [V.ref (am i)]) ∧ (¬ i < arr.length → xs = []), ?_, ?_⟩
    · refine ⟨_, rfl, _, rfl, ar, _, rfl, .inl (SqL.of hlst), ?_⟩
      rw [refs_len]
      refine ⟨_, _, rfl, rfl, _, rfl, ?_⟩
      by_cases hin : i < arr.length
      · rw [decide_eq_true (by omega)]
        refine iteT ⟨_, rfl, _, rfl, _, _, _, _, rfl, rfl, SqL.of hlst, atI_nat (refs_at hin), ?_⟩
        exact ⟨al i, _, G, rfl, a, fun _ _ e => e, ai.aa.row i hin, fun _ => rfl, fun h => absurd hin h⟩
      · rw [decide_eq_false (by omega)]
        refine iteF ⟨Nat.zero_le _, fun q nq => ?_⟩
        exact ⟨q, [], _, rfl, a.new nq, same_new (a.free nq), upd_same, fun h => absurd h hin, fun _ => rfl⟩
    · rintro v H2 ⟨aa, xs, G2, rfl, a2, sG, haa, hx1, hx2⟩
      have b2 := b.mono sG
      have ai2 := ai.mono sG
      have hsl2 := sG _ _ hsl
      have sv2 := sv0.mono (Tups.same sG)
      refine ⟨aa, rfl, ⟨_, SqL.of (a2.same _ _ haa)⟩, for_list (K := K) (a := aa) (xs := xs) (fun j σ H' => ∃ (v7 v8 v13 : Option V) (ad2 : Ky → Addr) (s' : S), σ = SG scr (some (.ref d)) (some (.int m)) (some (.ref (ad .ins))) (some (.ref ar)) v5 v6 v7 v8 v9 (some (.int (i : Nat))) (some (.int N)) (some (.ref sl)) v13 none none none none ∧ ad2 .ins = ad .ins ∧
          At C m (cOf tk) ad2 s' G2 H' ∧ ((j = 0 ∧ s' = si) ∨ (j = 1 ∧ s' = s1)))
        ⟨v7, v8, v13, ad', si, rfl, hins, a2, .inl ⟨rfl, rfl⟩⟩ (fun j σ H' _ h => ?_) ?_ ?_⟩
      · obtain ⟨_, _, _, _, _, _, _, a, _⟩ := h
        exact SqL.of (a.same _ _ haa)
      · rintro j x σ H3 hj ⟨v7, v8, v13, ad2, s', rfl, hins2, a3, hs'⟩
        have hin : i < arr.length := by
          by_cases h : i < arr.length
          · exact h
          · rw [hx2 h] at hj; cases hj
        rw [hx1 hin] at hj
        obtain rfl : j = 0 := by
          have := (List.getElem?_eq_some_iff.mp hj).1
          simpa using this
        obtain rfl : V.ref (am i) = x := by simpa using hj
        obtain rfl : s' = si := by
          rcases hs' with ⟨_, e⟩ | ⟨e, _⟩
          · exact e
          · cases e
        obtain ⟨p, hp⟩ : ∃ p, arr[i]? = some p := ⟨arr[i], List.getElem?_eq_getElem hin⟩
        have hput : put m p.1 p.2 i s' = some s1 := by
          unfold slotPut at hp1
          rw [hp] at hp1
          exact hp1
        obtain ⟨q1, q2⟩ := hlt i p hp
        obtain ⟨dx, hI⟩ := a3.rep.all .ins trivial
        refine ⟨am i, _, rfl, SqT.of (a3.same _ _ (ai2.aa.tup i p hp)), rfl, _, _, rfl, _, _, rfl, _, _, rfl, rfl, ?_⟩
        refine ⟨_, rfl, _, dx, _, rfl, (by rw [← hins2]; exact hI), no_put _ _ _ _ _, _, rfl, _, rfl, _, rfl, m, cOf tk, ad2, s', G2, p.1, p.2, i, s1, by rw [hins2]; rfl, q1, q2, a3, hput, fun H4 ad4 a4 hins4 => ?_⟩
        exact ⟨_, _, _, ad4, s1, rfl, hins4.trans hins2, a4, .inr ⟨rfl, rfl⟩⟩
      · rintro σ H3 ⟨v7, v8, v13, ad2, s', rfl, hins2, a3, hs'⟩
        obtain rfl : s' = s1 := by
          by_cases hin : i < arr.length
          · rw [hx1 hin] at hs'
            rcases hs' with ⟨e, _⟩ | ⟨_, e⟩
            · cases e
            · exact e
          · rw [hx2 hin] at hs'
            rcases hs' with ⟨_, e⟩ | ⟨e, _⟩
            · have e2 : arr[i]? = none := List.getElem?_eq_none (by omega)
              unfold slotPut at hp1
              rw [e2] at hp1
              rw [e]; exact Option.some.inj hp1
            · cases e
        obtain ⟨dx, hI⟩ := a3.rep.all .ins trivial
        refine ⟨_, rfl, .inl ⟨rfl, _, SqL.of (a3.same _ _ hsl2)⟩, _, rfl, _, dx, _, rfl, (by rw [← hins2]; exact hI), no_turn _ _ _ _ _, m, cOf tk, ad2, s', G2, s2, o2, by rw [hins2]; rfl, by omega, by omega, a3, hp2, fun H4 q xs4 a4 hq ho => ?_⟩
        obtain ⟨a5, sG5, tu5⟩ := a4.grow (fun _ _ e => e)
        have hsl5 := sG5 _ _ hsl2
        have ho5 : Paired (OutV (cOf tk) (off m ad2 H4)) xs4 o2 := pair_mono ho fun v o ⟨t, e, h⟩ => ⟨t, e, tu5 _ _ h⟩
        have hq5 := tu5 _ _ hq
        have b5 := b2.mono sG5
        have ai5 := ai2.mono sG5
        have sv5 := sv2.mono (Tups.same sG5)
        generalize off m ad2 H4 = G5 at a5 sG5 hsl5 ho5 hq5 b5 ai5 sv5
        refine ⟨sl, sv, _, rfl, rfl, a5.same _ _ hsl5, Nat.lt_of_lt_of_le (by omega : sv.length < 1000) (by decide), ?_⟩
        have tu6 : Tups G5 (upd G5 sl (.lst (sv ++ [V.ref q]))) := Tups.lst hsl5
        have ai6 : AI (upd G5 sl (.lst (sv ++ [V.ref q]))) arr ar al am tk := ⟨⟨by rw [upd_ne (Ne.symm nsa)]; exact ai5.aa.lst, fun k hk => by rw [upd_ne (nal k hk)]; exact ai5.aa.row k hk, fun k p e => tu6 _ _ (ai5.aa.tup k p e)⟩, fun k p e => tu6 _ _ (ai5.cell k p e), ai5.ne⟩
        refine ⟨_, _, _, _, ad2, upd G5 sl (.lst (sv ++ [V.ref q])), sv ++ [V.ref q], s2, out ++ [o2], rfl, hins2, f3, b5.setA psl, a5.set hsl5 (by intro xs z; cases z), ai6, upd_same, ?_, by rw [List.length_append, hsv]; rfl⟩
        exact pair_app (sv5.mono tu6) ⟨q, xs4, rfl, tu6 _ _ hq5, pair_mono ho5 fun _ _ z => TupV.mono tu6 z⟩
  · rintro σ H' ⟨v7, v8, v10, v13, ad', G, sv, si, out, rfl, hins, hit, b, a, ai, hsl, sv0, hsv⟩
    have e := Option.some.inj (hit.symm.trans hrun)
    obtain rfl : si = fs := congrArg Prod.fst e
    obtain rfl : out = sent := congrArg Prod.snd e
    refine k _ _ ⟨scr, v5, v6, v7, v8, v9, v10, v13, m, N, arr, si, out, ad', G, ar, sl, sv, al, am, tk, ?_, h2, hlen, hN, hlt, fine, b, a, ai, hsl, sv0⟩
    rw [hins]
end
end K44

set_option Elab.async false
set_option maxRecDepth 100000
set_option pp.maxSteps 600
set_option linter.all false
namespace K44
open PySem L2
/-- what the law has at hand behind its main loop -/
structure Dt where
  m : Nat
  N : Nat
  arr : List (Nat × Nat)
  fs : S
  sent : List (List (Nat × Nat × Nat))
  ad : Ky → Addr
  ar : Addr
  sl : Addr
  sv : List V
  al : Nat → Addr
  am : Nat → Addr
  tk : Nat → Addr
  iq : Addr
  ix : List V
structure Dt.Fit (D : Dt) : Prop where
  m3 : D.m ≤ 3
  n9 : D.arr.length ≤ 9
  hN : D.N = slotsOf D.m D.arr.length
  lt : ∀ (k : Nat) (p : Nat × Nat), D.arr[k]? = some p → p.1 < D.m ∧ p.2 < D.m
  fine : Fine D.m D.arr D.fs D.sent
/-- all but the dicts with tuples for keys is kept -/
def SameD (G G' : Hp) : Prop := ∀ (c : Addr) (u : HO), G c = some u → (∀ kvs, u ≠ .dT kvs) → G' c = some u
theorem SameD.of {G G' : Hp} (s : Same G G') : SameD G G' := fun c u e _ => s c u e
theorem SameD.trans {G G1 G2 : Hp} (a : SameD G G1) (b : SameD G1 G2) : SameD G G2 := fun c u e h => b c u (a c u e h) h
theorem SameD.tups {G G' : Hp} (s : SameD G G') : Tups G G' := fun b xs e => s b _ e (fun _ z => by cases z)
theorem SameD.set {G : Hp} {w : Addr} {kvs : List (List Key × V)} {o : HO} (e : G w = some (.dT kvs)) : SameD G (upd G w o) := fun c u h n => by
  rw [upd_ne (ne_of h e (n kvs))]; exact h
theorem IdealV.mono {ca : Nat → V} {arr : List (Nat × Nat)} {N : Nat} {G G' : Hp} {xs : List V} (h : IdealV ca arr N G xs) (t : Tups G G') : IdealV ca arr N G' xs :=
  ⟨h.1, fun k hk => let ⟨r, vs, e1, e2, e3⟩ := h.2 k hk; ⟨r, vs, e1, t _ _ e2, e3.mono t⟩⟩
structure Kn (l d T1 T2 : Addr) (D : Dt) (G : Hp) : Prop where
  bs : Bs l d T1 T2 G
  ai : AI G D.arr D.ar D.al D.am D.tk
  sl : G D.sl = some (.lst D.sv)
  sv : SentV (cOf D.tk) G D.sv D.sent
  iq : G D.iq = some (.tup D.ix)
  iv : IdealV (cOf D.tk) D.arr D.N G D.ix
theorem Kn.mono {l d T1 T2 : Addr} {D : Dt} {G G' : Hp} (k : Kn l d T1 T2 D G) (s : SameD G G') : Kn l d T1 T2 D G' where
  bs := ⟨s _ _ k.bs.lst (fun _ z => by cases z), let ⟨x, y, z, e⟩ := k.bs.dice; ⟨x, y, z, s _ _ e (fun _ q => by unfold D3 at q; cases q)⟩, let ⟨ps, e, h⟩ := k.bs.t1; ⟨ps, s _ _ e (fun _ z => by cases z), h⟩, let ⟨ps, e, h⟩ := k.bs.t2; ⟨ps, s _ _ e (fun _ z => by cases z), h⟩⟩
  ai := ⟨⟨s _ _ k.ai.aa.lst (fun _ z => by cases z), fun j hj => s _ _ (k.ai.aa.row j hj) (fun _ z => by cases z), fun j p e => s.tups _ _ (k.ai.aa.tup j p e)⟩, fun j p e => s.tups _ _ (k.ai.cell j p e), k.ai.ne⟩
  sl := s _ _ k.sl (fun _ z => by cases z)
  sv := k.sv.mono s.tups
  iq := s.tups _ _ k.iq
  iv := k.iv.mono s.tups
section
variable {P : Program} {w : World} {K : PySem.W.Frag} {mg : Str → Option Value} {base : Heap} {f : Addr} {cdv : Value} {A : Around} {outer : List Env} {s : Shared} {H0 : Hp} {E : XK} {C I l d T1 T2 : Addr}
def P8 (C l d T1 T2 : Addr) (σ : L2.St) (H : Hp) : Prop := ∃ scr v5 v6 v7 v8 v9 v10 v13, ∃ (D : Dt) (G : Hp),
  σ = SG scr (some (.ref d)) (some (.int D.m)) (some (.ref (D.ad .ins))) (some (.ref D.ar)) v5 v6 v7 v8 v9 v10 (some (.int D.N)) (some (.ref D.sl)) v13 (some (.ref D.iq)) none none none ∧
  D.Fit ∧ At C D.m (cOf D.tk) D.ad D.fs G H ∧ Kn l d T1 T2 D G
theorem st6 (hr : Room 3 (XL P w K mg base f cdv A outer s H0 E).A) (cr : C8.Cal P w K mg base 3 "ideal_run" spRun []) : PS (XL P w K mg base f cdv A outer s H0 E) (lawIn 6) (tHo (P7 C l d T1 T2) (P8 C l d T1 T2)) := by
  refine ps_ho (ps_set (i := 14) scLaw.nd rfl (Or.inl rfl) (C8.pe_c cr hr (by decide) rfl (pa_cons (pv 2) (pa_cons (pv 4) (pa_cons (pv 11) pa_nil))))) ?_
  rintro D σ H ⟨scr, v5, v6, v7, v8, v9, v10, v13, m, N, arr, fs, sent, ad, G, ar, sl, sv, al, am, tk, rfl, h2, hlen, hN, hlt, fine, b, a, ai, hsl, sv0⟩ k
  have hNb := slots_le h2 hlen
  rw [← hN] at hNb
  refine ⟨_, rfl, _, rfl, _, rfl, m, N, cOf tk, arr, ar, al, am, rfl, by omega, by omega, hNb.1, fun k p e => (hlt k p e).2, ai.aa.mono a.same, fun H' q xs sm hq hv => ?_⟩
  obtain ⟨a1, sG, tu⟩ := a.grow sm
  exact k _ _ ⟨scr, v5, v6, v7, v8, v9, v10, v13, ⟨m, N, arr, fs, sent, ad, ar, sl, sv, al, am, tk, q, xs⟩, _, rfl, ⟨h2, hlen, hN, hlt, fine⟩, a1, ⟨b.mono sG, ai.mono sG, sG _ _ hsl, sv0.mono (Tups.same sG), tu _ _ hq, hv.mono tu⟩⟩
/-! ### the two dicts -/
def P9 (C l d T1 T2 : Addr) (σ : L2.St) (H : Hp) : Prop := ∃ scr v5 v6 v7 v8 v9 v10 v13, ∃ (D : Dt) (G : Hp) (wn ft : Addr),
  σ = SG scr (some (.ref d)) (some (.int D.m)) (some (.ref (D.ad .ins))) (some (.ref D.ar)) v5 v6 v7 v8 v9 v10 (some (.int D.N)) (some (.ref D.sl)) v13 (some (.ref D.iq)) (some (.ref wn)) (some (.ref ft)) none ∧
  D.Fit ∧ At C D.m (cOf D.tk) D.ad D.fs G H ∧ Kn l d T1 T2 D G ∧ wn ≠ ft ∧ G wn = some (.dT []) ∧ G ft = some (.dT [])
theorem st7 : PS (XL P w K mg base f cdv A outer s H0 E) (lawIn 7) (tHo (P8 C l d T1 T2) (P9 C l d T1 T2)) := by
  refine ps_ho (ps_asg (pe_tup (pa_cons pe_dnewT (pa_cons pe_dnewT pa_nil))) (pg_tup rfl (pgs_cons (pg_name (i := 15) scLaw.nd rfl (Or.inr rfl)) (pgs_cons (pg_name (i := 16) scLaw.nd rfl (Or.inr rfl)) pgs_nil)))) ?_
  rintro E0 σ H ⟨scr, v5, v6, v7, v8, v9, v10, v13, D, G, rfl, ft, a, kn⟩ k
  refine fun p np => fun q nq => ⟨(by show (2 : Nat) ≤ sizeLine; decide), fun t nt => ⟨t, _, rfl, SqT.of upd_same, rfl, _, _, rfl, _, _, rfl, rfl, ?_⟩⟩
  have a1 := a.new (o := .dT []) np
  have a2 := a1.new (o := .dT []) nq
  have a3 := a2.new (o := .tup [.ref p, .ref q]) nt
  have n1 := a.free np
  have n2 := a1.free nq
  have n3 := a2.free nt
  have s2 := same_new (o := .dT []) n2
  have s3 := same_new (o := .tup [.ref p, .ref q]) n3
  exact k _ _ ⟨scr, v5, v6, v7, v8, v9, v10, v13, D, _, p, q, rfl, ft, a3, kn.mono (SameD.of (((same_new n1).trans s2).trans s3)), ne_of_none upd_same nq, s3 _ _ (s2 _ _ upd_same), s3 _ _ upd_same⟩
end
end K44

set_option Elab.async false
set_option maxRecDepth 100000
set_option pp.maxSteps 600
set_option linter.all false
namespace K44
open PySem L2
section
variable {κ : Type} [DecidableEq κ]
theorem valV_no {kvs : List (κ × V)} {k : κ} (h : ¬ k ∈ kvs.map (·.1)) : valV kvs k = none := by
  cases e : valV kvs k with
  | none => rfl
  | some v => exact absurd (valV_in e) h
end
theorem merge_len : ∀ (more acc : List (Key × V)), (more.map (·.1)).Nodup → (∀ k, k ∈ more.map (·.1) → ¬ k ∈ acc.map (·.1)) → (mergeK acc more).length = acc.length + more.length
  | [], acc, _, _ => rfl
  | p :: r, acc, hn, hd => by
    rw [List.map_cons] at hn
    obtain ⟨n1, n2⟩ := List.nodup_cons.mp hn
    have e : putK acc p.1 p.2 = acc ++ [(p.1, p.2)] := putK_new p.2 (valV_no (hd p.1 (by rw [List.map_cons]; exact List.mem_cons_self)))
    show (mergeK (putK acc p.1 p.2) r).length = _
    rw [e, merge_len r _ n2 (fun k hk hm => ?_)]
    · rw [List.length_append, List.length_cons, List.length_cons, List.length_nil]; omega
    · rw [List.map_append] at hm
      rcases List.mem_append.mp hm with h | h
      · exact hd k (by rw [List.map_cons]; exact List.mem_cons_of_mem _ hk) h
      · have : k = p.1 := by simpa using h
        rw [this] at hk
        exact n1 hk
def kOf (arr : List (Nat × Nat)) (c : Nat) : List Key := [.inl (c : Int), .inl (((arr.getD c (0, 0)).1 : Nat) : Int)]
theorem kOf_inj {arr : List (Nat × Nat)} {a b : Nat} (h : kOf arr a = kOf arr b) : a = b := by
  unfold kOf at h
  injection h with h _
  injection h with h
  omega
def kvT (arr : List (Nat × Nat)) (L : List (Nat × Nat)) : List (List Key × V) := L.map fun p => (kOf arr p.1, V.int (p.2 : Nat))
theorem kvT_snoc (arr : List (Nat × Nat)) (L : List (Nat × Nat)) (p : Nat × Nat) : kvT arr (L ++ [p]) = kvT arr L ++ [(kOf arr p.1, V.int (p.2 : Nat))] := by
  unfold kvT; rw [List.map_append]; rfl
theorem kvT_no {arr : List (Nat × Nat)} {L : List (Nat × Nat)} {c : Nat} (h : ¬ c ∈ L.map (·.1)) : valV (kvT arr L) (kOf arr c) = none := by
  refine valV_no fun hm => h ?_
  unfold kvT at hm
  rw [List.map_map] at hm
  obtain ⟨p, hp, e⟩ := List.mem_map.mp hm
  exact List.mem_map.mpr ⟨p, hp, kOf_inj e⟩
theorem kvT_put {arr : List (Nat × Nat)} {L : List (Nat × Nat)} {c i : Nat} (h : ¬ c ∈ L.map (·.1)) : putK (kvT arr L) (kOf arr c) (V.int (i : Nat)) = kvT arr (L ++ [(c, i)]) := by
  rw [putK_new _ (kvT_no h), kvT_snoc]
theorem kvT_len (arr : List (Nat × Nat)) (L : List (Nat × Nat)) : (kvT arr L).length = L.length := by unfold kvT; rw [List.length_map]
theorem wh_part (sent : List (List (Nat × Nat × Nat))) {i : Nat} : ∀ {N : Nat}, i ≤ N → ∃ r, wh sent N = wh sent i ++ r
  | 0, h => ⟨[], by rw [show i = 0 by omega, List.append_nil]⟩
  | N + 1, h => by
    by_cases e : i = N + 1
    · exact ⟨[], by rw [e, List.append_nil]⟩
    · obtain ⟨r, hr⟩ := wh_part sent (i := i) (N := N) (by omega)
      exact ⟨_, by rw [wh_succ, hr, List.append_assoc]⟩
theorem wh_step {n i N j : Nat} {sent : List (List (Nat × Nat × Nat))} {row : List (Nat × Nat × Nat)} {o : Nat × Nat × Nat} (hp : ((wh sent N).map (·.1)).Perm (List.range n)) (hi : i < N) (hrow : sent[i]? = some row) (ho : row[j]? = some o) :
    (¬ o.2.2 ∈ (wh sent i ++ (row.take j).map fun o => (o.2.2, i)).map (·.1)) ∧ o.2.2 < n ∧ (wh sent i ++ (row.take j).map fun o => (o.2.2, i)).length < n := by
  obtain ⟨r, hr⟩ := wh_part sent (i := i + 1) (N := N) hi
  have eg : sent.getD i [] = row := by rw [List.getD_eq_getElem?_getD, hrow]; rfl
  rw [wh_succ, eg] at hr
  have er : row = row.take j ++ o :: row.drop (j + 1) := by
    have hj := (List.getElem?_eq_some_iff.mp ho).1
    have e1 : row[j] = o := (List.getElem?_eq_some_iff.mp ho).2
    rw [← e1, ← List.drop_eq_getElem_cons hj, List.take_append_drop]
  have e2 : wh sent N = (wh sent i ++ (row.take j).map fun o => (o.2.2, i)) ++ ((o.2.2, i) :: ((row.drop (j + 1)).map (fun o => (o.2.2, i)) ++ r)) := by
    have e3 : row.map (fun o => (o.2.2, i)) = (row.take j).map (fun o => (o.2.2, i)) ++ (o.2.2, i) :: (row.drop (j + 1)).map fun o => (o.2.2, i) := by
      rw [← List.map_cons (f := fun o : Nat × Nat × Nat => (o.2.2, i)), ← List.map_append, ← er]
    rw [hr, e3]
    simp only [List.append_assoc, List.cons_append]
  have hnd : ((wh sent N).map (·.1)).Nodup := hp.nodup_iff.mpr List.nodup_range
  have hmem : o.2.2 ∈ List.range n := hp.mem_iff.mp (by rw [e2, List.map_append]; exact List.mem_append_right _ (by rw [List.map_cons]; exact List.mem_cons_self))
  have hlen := hp.length_eq
  rw [e2, List.map_append, List.map_cons] at hnd
  rw [e2, List.length_map, List.length_append, List.length_cons, List.length_range] at hlen
  refine ⟨fun hm => ?_, List.mem_range.mp hmem, by omega⟩
  exact (List.nodup_append.mp hnd).2.2 _ hm _ List.mem_cons_self rfl
/-- the ideal switch's: cell k in slot k -/
def fi (n i : Nat) : List (Nat × Nat) := (List.range (min i n)).map fun k => (k, k)
theorem fi_in {n i : Nat} (h : i < n) : fi n (i + 1) = fi n i ++ [(i, i)] := by
  unfold fi
  rw [show min (i + 1) n = i + 1 by omega, show min i n = i by omega, List.range_succ, List.map_append]
  rfl
theorem fi_out {n i : Nat} (h : ¬ i < n) : fi n (i + 1) = fi n i := by
  unfold fi
  rw [show min (i + 1) n = n by omega, show min i n = n by omega]
theorem fi_no {n i : Nat} : ¬ i ∈ (fi n i).map (·.1) := fun h => by
  unfold fi at h
  rw [List.map_map] at h
  obtain ⟨k, hk, e⟩ := List.mem_map.mp h
  have := List.mem_range.mp hk
  have e' : k = i := e
  omega
theorem fi_len (n i : Nat) : (fi n i).length ≤ n := by
  unfold fi
  rw [List.length_map, List.length_range]; omega
section
variable {P : Program} {w : World} {K : PySem.W.Frag} {mg : Str → Option Value} {base : Heap} {f : Addr} {cdv : Value} {A : Around} {outer : List Env} {s : Shared} {H0 : Hp} {E : XK} {C I l d T1 T2 : Addr}
def P10 (C l d T1 T2 : Addr) (σ : L2.St) (H : Hp) : Prop := ∃ scr v5 v6 v7 v8 v9 v10 v13, ∃ (D : Dt) (G : Hp) (wn ft : Addr),
  σ = SG scr (some (.ref d)) (some (.int D.m)) (some (.ref (D.ad .ins))) (some (.ref D.ar)) v5 v6 v7 v8 v9 v10 (some (.int D.N)) (some (.ref D.sl)) v13 (some (.ref D.iq)) (some (.ref wn)) (some (.ref ft)) none ∧
  D.Fit ∧ At C D.m (cOf D.tk) D.ad D.fs G H ∧ Kn l d T1 T2 D G ∧ G wn = some (.dT (kvT D.arr (wh D.sent D.N))) ∧ G ft = some (.dT (kvT D.arr (fi D.arr.length D.N)))
theorem st8 (hr : Room 3 (XL P w K mg base f cdv A outer s H0 E).A) (T : Txt K mg C I) : PS (XL P w K mg base f cdv A outer s H0 E) (lawIn 8) (tHo (P9 C l d T1 T2) (P10 C l d T1 T2)) := by
  refine ps_ho (ps_for PassesOwn.never rfl (pi_range1 rfl T.range (pa_cons (pv 11) pa_nil)) (pg_name (i := 10) scLaw.nd rfl (Or.inl rfl))
    (pss_cons (ps_if (pt_cmpR op_ne (pe_callB call_lenD (by rfl) T.len PySem.boot_len (pa_cons (pe_callTy (call_dictP rfl) (by rfl) T.dict (by decide +kernel) (pa_cons
        (pe_lc (own := [("_law_one", 7), ("_law_gate", 8), ("_law_cell", 13)]) (g := gTup K 3 (gCons (gName 7) (gCons (gName 8) (gCons (gName 13) gNil)))) (tt := tYes) rfl scLaw.nd (pi_tup (pe_ix ix_list (pv 12) (pv 10) (fun _ _ => rfl)))
          (blkOk_by (own := [("_law_one", 7), ("_law_gate", 8), ("_law_cell", 13)]) (N := NL) (sc := defScope sLaw) (by decide +kernel))
          (fun _ _ _ _ _ => pg_tup rfl (pgs_cons (pg_name (i := 7) scLaw.nd rfl (Or.inl rfl)) (pgs_cons (pg_name (i := 8) scLaw.nd rfl (Or.inl rfl)) (pgs_cons (pg_name (i := 13) scLaw.nd rfl (Or.inl rfl)) pgs_nil)))) (fun _ _ _ _ _ => pts_nil)
          (fun _ _ _ _ _ => pe_tup (pa_cons (pv 8) (pa_cons pe_int pa_nil)))) pa_nil)) pa_nil))
        (pe_callB call_len_seq (by rfl) T.len PySem.boot_len (pa_cons (pe_ix ix_list (pv 12) (pv 10) (fun _ _ => rfl)) pa_nil)) (nomark _)) (pss_one (ps_ret pe_bl)) pss_nil)
    (pss_cons (ps_for PassesOwn.never rfl (pi_tup (pe_ix ix_list (pv 12) (pv 10) (fun _ _ => rfl))) (pg_tup rfl (pgs_cons (pg_name (i := 7) scLaw.nd rfl (Or.inl rfl)) (pgs_cons (pg_name (i := 8) scLaw.nd rfl (Or.inl rfl)) (pgs_cons (pg_name (i := 13) scLaw.nd rfl (Or.inl rfl)) pgs_nil))))
        (pss_one (ps_dput (hu_of hr) (pv 15) (pv 13) (pv 10) rfl)))
    (pss_one (ps_for PassesOwn.never rfl (pi_tup (pe_ix ix_tup (pv 14) (pv 10) (fun _ _ => rfl))) (pg_tup rfl (pgs_cons (pg_name (i := 8) scLaw.nd rfl (Or.inl rfl)) (pgs_cons (pg_name (i := 13) scLaw.nd rfl (Or.inl rfl)) pgs_nil)))
        (pss_one (ps_dput (hu_of hr) (pv 16) (pv 13) (pv 10) rfl))))))) ?_
  rintro D σ H ⟨scr, v5, v6, v7, v8, v9, v10, v13, Z, G, wn, ft, rfl, fit, a, kn, nwf, hwn, hft⟩ k
  have hNb := slots_le fit.m3 fit.n9
  rw [← fit.hN] at hNb
  have n9 := fit.n9
  refine ⟨_, rfl, (Z.N : Int), rfl, by omega, by omega, ?_⟩
  rw [Int.toNat_natCast]
  refine for_range (lo := 0) (n := Z.N) (fun i σ H' => ∃ (v7 v8 v10 v13 : Option V) (G : Hp),
      σ = SG scr (some (.ref d)) (some (.int Z.m)) (some (.ref (Z.ad .ins))) (some (.ref Z.ar)) v5 v6 v7 v8 v9 v10 (some (.int Z.N)) (some (.ref Z.sl)) v13 (some (.ref Z.iq)) (some (.ref wn)) (some (.ref ft)) none ∧
      At C Z.m (cOf Z.tk) Z.ad Z.fs G H' ∧ Kn l d T1 T2 Z G ∧ G wn = some (.dT (kvT Z.arr (wh Z.sent i))) ∧ G ft = some (.dT (kvT Z.arr (fi Z.arr.length i))))
    ⟨v7, v8, v10, v13, G, rfl, a, kn, hwn, by rw [hft]; unfold fi; rw [Nat.zero_min]; rfl⟩ ?_ ?_
  · rintro i σ H' hi ⟨v7, v8, v10, v13, G, rfl, a, kn, hwn, hft⟩
    rw [Int.zero_add]
    have hsl := fit.fine.len
    rw [← fit.hN] at hsl
    have hperm := fit.fine.perm
    rw [← fit.hN] at hperm
    obtain ⟨row, hrow⟩ : ∃ row, Z.sent[i]? = some row := ⟨Z.sent[i]'(by omega), List.getElem?_eq_getElem _⟩
    have hmem := List.mem_of_getElem? hrow
    obtain ⟨_, hvi, q, xs, rfl, hq, hxs⟩ := pair_get kn.sv hrow
    have hxl : xs.length = row.length := pair_len hxs
    have hrl := fit.fine.row row hmem
    have m3 := fit.m3
    -- the test
    refine ⟨_, rfl, _, rfl, _, _, _, _, rfl, rfl, SqL.of (a.same _ _ kn.sl), atI_nat hvi, q, rfl, ⟨_, SqT.of (a.same _ _ hq)⟩, fun B nB => ?_⟩
    refine lc_it (walk_tup (K := K) (a := q) (xs := xs)) (fun t H2 => Same H' H2 ∧ ∃ ps : List Addr, H2 B = some (.lst (ps.map V.ref)) ∧ Paired (fun p (o : Nat × Nat × Nat) => H2 p = some (.tup [.int (o.2.1 : Nat), .int 1])) ps (row.take t))
      ⟨same_new nB, [], upd_same, .nil⟩ (fun t H2 _ h => SqT.of (h.1 _ _ (a.same _ _ hq))) ?_ ?_
    · rintro t x H2 H3 ht ⟨s2, ps, hB, hps⟩ ⟨rfl, hx⟩
      obtain ⟨o, ho⟩ : ∃ o, row[t]? = some o := ⟨row[t]'(by omega), List.getElem?_eq_getElem _⟩
      obtain ⟨tt, rfl, htt⟩ := pair_at (F := OutV (cOf Z.tk) G) hxs hx ho
      refine ⟨tt, _, rfl, SqT.of (s2 _ _ (a.same _ _ htt)), rfl, _, _, rfl, _, _, rfl, _, _, rfl, rfl, rfl, ?_⟩
      dsimp only [tYes]
      rw [if_pos rfl]
      refine ⟨_, rfl, (by show (2 : Nat) ≤ sizeLine; decide), fun p np => ?_⟩
      have sp : Same H3 (upd H3 p (.tup [.int (o.2.1 : Nat), .int 1])) := same_new np
      have hp : upd H3 p (.tup [.int (o.2.1 : Nat), .int 1]) p = some (.tup [.int (o.2.1 : Nat), .int 1]) := upd_same
      have npB : p ≠ B := Ne.symm (ne_of_none hB np)
      have hl : ps.length = t := by rw [pair_len hps, List.length_take]; omega
      have hB2 := sp _ _ hB
      generalize upd H3 p (.tup [.int (o.2.1 : Nat), .int 1]) = H4 at sp hp hB2 ⊢
      refine ⟨_, hB2, by rw [List.length_map, hl]; exact Nat.lt_of_lt_of_le (by omega : t < 1000) (by decide), fun b u e => ?_, ps ++ [p], ?_, ?_⟩
      · rw [upd_ne (ne_of_none e nB)]
        exact sp _ _ (s2 _ _ e)
      · rw [upd_same, List.map_append]; rfl
      · rw [List.take_add_one, ho]
        have tu : Tups H3 (upd H4 B (.lst (ps.map V.ref ++ [V.ref p]))) := Tups.trans (Tups.same sp) (Tups.lst hB2)
        exact pair_app (pair_mono hps fun _ _ e => tu _ _ e) (by show upd _ _ _ p = _; rw [upd_ne npB]; exact hp)
    · rintro H2 ⟨s2, ps, hB, hps⟩
      rw [hxl, List.take_length] at hps
      have hpl : ps.length = row.length := pair_len hps
      refine ⟨B, ps, row.map fun o => (Sum.inl (o.2.1 : Int), V.int 1), rfl, SqL.of hB, ?_, fun p np => ?_⟩
      · have e : Paired (fun (o : Nat × Nat × Nat) (kv : Key × V) => kv = (Sum.inl (o.2.1 : Int), V.int 1)) (row.map id) (row.map fun o => (Sum.inl (o.2.1 : Int), V.int 1)) := pair_map _ fun o _ => rfl
        rw [List.map_id] at e
        have tr : ∀ {ps : List Addr} {row : List (Nat × Nat × Nat)} {kvs : List (Key × V)}, Paired (fun p (o : Nat × Nat × Nat) => H2 p = some (.tup [.int (o.2.1 : Nat), .int 1])) ps row → Paired (fun (o : Nat × Nat × Nat) (kv : Key × V) => kv = (Sum.inl (o.2.1 : Int), V.int 1)) row kvs →
            Paired (fun p kv => SqT K H2 p [kV kv.1, kv.2]) ps kvs := by
          intro ps row kvs h1
          induction h1 generalizing kvs with
          | nil => intro h2; cases h2; exact .nil
          | cons x _ ih =>
            intro h2
            cases h2 with
            | cons y r =>
              refine .cons ?_ (ih r)
              rw [y]
              exact SqT.of x
        exact tr hps e
      · have sp : Same H2 (upd H2 p (.dK (mergeK [] (row.map fun o => (Sum.inl (o.2.1 : Int), V.int 1))))) := same_new np
        have elen : (mergeK [] (row.map fun o => (Sum.inl (o.2.1 : Int), V.int 1)) : List (Key × V)).length = row.length := by
          rw [merge_len _ _ ?_ (fun k _ h => by cases h)]
          · rw [List.length_nil, List.length_map]; omega
          · rw [List.map_map]
            have nd := fit.fine.nodup row hmem
            refine List.pairwise_map.mpr (List.Pairwise.imp ?_ (List.pairwise_map.mp nd))
            intro x y hxy e
            exact hxy (by injection e with e; omega)
        have s3 := s2.trans sp
        refine ⟨p, _, rfl, upd_same, ?_⟩
        rw [elen]
        generalize upd H2 p (.dK (mergeK [] (row.map fun o => (Sum.inl (o.2.1 : Int), V.int 1)))) = H3 at s3 ⊢
        refine ⟨_, rfl, _, rfl, _, _, _, _, rfl, rfl, SqL.of (s3 _ _ (a.same _ _ kn.sl)), atI_nat hvi, q, _, rfl, .inr (SqT.of (s3 _ _ (a.same _ _ hq))), rfl, _, rfl, ?_⟩
        rw [hxl, decide_eq_true rfl]
        refine iteF ?_
        obtain ⟨a, sG, tu⟩ := a.grow s3
        have kn := kn.mono (SameD.of sG)
        have hwn := sG _ _ hwn
        have hft := sG _ _ hft
        have hq := sG _ _ hq
        have hxs : Paired (OutV (cOf Z.tk) (off Z.m Z.ad H3)) xs row := pair_mono hxs fun _ _ z => TupV.mono (Tups.same sG) z
        generalize off Z.m Z.ad H3 = G at a kn hwn hft hq hxs
        -- when
        refine ⟨_, rfl, _, rfl, _, _, _, _, rfl, rfl, SqL.of (a.same _ _ kn.sl), atI_nat hvi, q, rfl, ⟨_, SqT.of (a.same _ _ hq)⟩, for_tup (K := K) (a := q) (xs := xs) (fun j σ H' => ∃ (v7 v8 v13 : Option V) (G' : Hp),
            σ = SG scr (some (.ref d)) (some (.int Z.m)) (some (.ref (Z.ad .ins))) (some (.ref Z.ar)) v5 v6 v7 v8 v9 (some (.int (i : Nat))) (some (.int Z.N)) (some (.ref Z.sl)) v13 (some (.ref Z.iq)) (some (.ref wn)) (some (.ref ft)) none ∧
            At C Z.m (cOf Z.tk) Z.ad Z.fs G' H' ∧ SameD G G' ∧ G' wn = some (.dT (kvT Z.arr (wh Z.sent i ++ (row.take j).map fun o => (o.2.2, i)))) ∧ G' ft = some (.dT (kvT Z.arr (fi Z.arr.length i))))
          ⟨v7, v8, v13, G, rfl, a, fun _ _ e _ => e, by rw [List.take_zero, List.map_nil, List.append_nil]; exact hwn, hft⟩ (fun j σ H' _ h => ?_) ?_ ?_⟩
        · obtain ⟨_, _, _, G', _, a, sD, _⟩ := h
          exact SqT.of (a.same _ _ (sD.tups _ _ hq))
        · rintro j x σ H4 hj ⟨v7, v8, v13, G', rfl, a, sD, hwn, hft⟩
          have hjl : j < xs.length := (List.getElem?_eq_some_iff.mp hj).1
          obtain ⟨o, ho⟩ : ∃ o, row[j]? = some o := ⟨row[j]'(by omega), List.getElem?_eq_getElem _⟩
          obtain ⟨tt, rfl, htt⟩ := pair_at (F := OutV (cOf Z.tk) G) hxs hj ho
          obtain ⟨w1, w2, w3⟩ := wh_step hperm hi hrow ho
          obtain ⟨p, hp⟩ : ∃ p, Z.arr[o.2.2]? = some p := ⟨Z.arr[o.2.2], List.getElem?_eq_getElem w2⟩
          have hcell := (kn.mono sD).ai.cell _ _ hp
          have ek : G' (Z.tk o.2.2) = some (.tup ((kOf Z.arr o.2.2).map kV)) := by
            rw [hcell]
            unfold kOf
            rw [List.getD_eq_getElem?_getD, hp]
            rfl
          refine ⟨tt, _, rfl, SqT.of (a.same _ _ (sD.tups _ _ htt)), rfl, _, _, rfl, _, _, rfl, _, _, rfl, rfl, ?_⟩
          refine ⟨_, rfl, _, rfl, _, rfl, wn, _, rfl, DPut.t (a.same _ _ hwn) (a.same _ _ ek) (by rw [kvT_len]; exact Nat.lt_of_lt_of_le (by omega : _ < 1000) (by decide)), ?_⟩
          rw [kvT_put w1]
          refine ⟨_, _, _, upd G' wn (.dT (kvT Z.arr ((wh Z.sent i ++ (row.take j).map fun o => (o.2.2, i)) ++ [(o.2.2, i)]))), rfl, a.set hwn (by intro xs z; cases z), sD.trans (SameD.set hwn), ?_, ?_⟩
          · rw [upd_same, List.take_add_one, ho, List.append_assoc, List.map_append]
            rfl
          · rw [upd_ne (Ne.symm nwf)]; exact hft
        · rintro σ H4 ⟨v7, v8, v13, G', rfl, a, sD, hwn, hft⟩
          rw [hxl, List.take_length] at hwn
          have ewh : wh Z.sent i ++ row.map (fun o => (o.2.2, i)) = wh Z.sent (i + 1) := by
            rw [wh_succ, List.getD_eq_getElem?_getD, hrow]; rfl
          rw [ewh] at hwn
          have kn := kn.mono sD
          obtain ⟨r, vs, hri, hr0, sl⟩ := kn.iv.2 i hi
          -- first
          refine ⟨_, rfl, _, rfl, _, _, _, _, rfl, rfl, SqT.of (a.same _ _ kn.iq), atI_nat hri, r, rfl, ⟨_, SqT.of (a.same _ _ hr0)⟩, for_tup (K := K) (a := r) (xs := vs) (fun j σ H' => ∃ (v8 v13 : Option V) (G2 : Hp),
              σ = SG scr (some (.ref d)) (some (.int Z.m)) (some (.ref (Z.ad .ins))) (some (.ref Z.ar)) v5 v6 v7 v8 v9 (some (.int (i : Nat))) (some (.int Z.N)) (some (.ref Z.sl)) v13 (some (.ref Z.iq)) (some (.ref wn)) (some (.ref ft)) none ∧
              At C Z.m (cOf Z.tk) Z.ad Z.fs G2 H' ∧ SameD G' G2 ∧ G2 wn = some (.dT (kvT Z.arr (wh Z.sent (i + 1)))) ∧ G2 ft = some (.dT (kvT Z.arr (fi Z.arr.length (i + j)))))
            ⟨v8, v13, G', rfl, a, fun _ _ e _ => e, hwn, hft⟩ (fun j σ H' _ h => ?_) ?_ ?_⟩
          · obtain ⟨_, _, G2, _, a, sD, _⟩ := h
            exact SqT.of (a.same _ _ (sD.tups _ _ hr0))
          · rintro j x σ H5 hj ⟨v8, v13, G2, rfl, a, sD, hwn, hft⟩
            unfold Slot at sl
            cases hp : Z.arr[i]? with
            | none => rw [hp] at sl; rw [sl] at hj; cases hj
            | some p =>
              rw [hp] at sl
              obtain ⟨u, rfl, hu⟩ := sl
              obtain rfl : j = 0 := by
                have := (List.getElem?_eq_some_iff.mp hj).1
                simpa using this
              obtain rfl : V.ref u = x := by simpa using hj
              have hin : i < Z.arr.length := (List.getElem?_eq_some_iff.mp hp).1
              have hcell := (kn.mono sD).ai.cell _ _ hp
              have ek : G2 (Z.tk i) = some (.tup ((kOf Z.arr i).map kV)) := by
                rw [hcell]
                unfold kOf
                rw [List.getD_eq_getElem?_getD, hp]
                rfl
              have hl := fi_len Z.arr.length i
              have hft : G2 ft = some (.dT (kvT Z.arr (fi Z.arr.length i))) := hft
              refine ⟨u, _, rfl, SqT.of (a.same _ _ (sD.tups _ _ hu)), rfl, _, _, rfl, _, _, rfl, rfl, ?_⟩
              refine ⟨_, rfl, _, rfl, _, rfl, ft, _, rfl, DPut.t (a.same _ _ hft) (a.same _ _ ek) (by rw [kvT_len]; exact Nat.lt_of_lt_of_le (by omega : _ < 1000) (by decide)), ?_⟩
              rw [kvT_put fi_no, ← fi_in hin]
              exact ⟨_, _, upd G2 ft (.dT (kvT Z.arr (fi Z.arr.length (i + 1)))), rfl, a.set hft (by intro xs z; cases z), sD.trans (SameD.set hft), by rw [upd_ne nwf]; exact hwn, upd_same⟩
          · rintro σ H5 ⟨v8, v13, G2, rfl, a, sD, hwn, hft⟩
            refine ⟨_, _, _, _, G2, rfl, a, kn.mono sD, hwn, ?_⟩
            unfold Slot at sl
            cases hp : Z.arr[i]? with
            | none =>
              rw [hp] at sl
              rw [sl] at hft
              rw [fi_out (List.getElem?_eq_none_iff.mp hp |> Nat.not_lt.mpr)]
              exact hft
            | some p =>
              rw [hp] at sl
              obtain ⟨u, rfl, hu⟩ := sl
              exact hft
  · rintro σ H' ⟨v7, v8, v10, v13, G, rfl, a, kn, hwn, hft⟩
    exact k _ _ ⟨scr, v5, v6, v7, v8, v9, v10, v13, Z, G, wn, ft, rfl, fit, a, kn, hwn, hft⟩
end
end K44

set_option Elab.async false
set_option maxRecDepth 100000
set_option pp.maxSteps 600
set_option linter.all false
namespace K44
open PySem L2
section
variable {P : Program} {w : World} {K : PySem.W.Frag} {mg : Str → Option Value} {base : Heap} {f : Addr} {cdv : Value} {A : Around} {outer : List Env} {s : Shared} {H0 : Hp} {E : XK} {C I l d T1 T2 : Addr}
/-! ### the cells in one -/
def cellsV (D : Dt) : List V := (List.range D.arr.length).map (cOf D.tk)
def P11 (C l d T1 T2 : Addr) (σ : L2.St) (H : Hp) : Prop := ∃ scr v5 v6 v7 v8 v9 v10 v13, ∃ (D : Dt) (G : Hp) (wn ft cl : Addr),
  σ = SG scr (some (.ref d)) (some (.int D.m)) (some (.ref (D.ad .ins))) (some (.ref D.ar)) v5 v6 v7 v8 v9 v10 (some (.int D.N)) (some (.ref D.sl)) v13 (some (.ref D.iq)) (some (.ref wn)) (some (.ref ft)) (some (.ref cl)) ∧
  D.Fit ∧ At C D.m (cOf D.tk) D.ad D.fs G H ∧ Kn l d T1 T2 D G ∧ G wn = some (.dT (kvT D.arr (wh D.sent D.N))) ∧ G ft = some (.dT (kvT D.arr (fi D.arr.length D.N))) ∧ G cl = some (.lst (cellsV D))
theorem flat_one {α : Type} (g : Nat → α) (n : Nat) : ((List.range n).map fun k => [g k]).flatten = (List.range n).map g := by
  induction n with
  | zero => rfl
  | succ n ih => rw [List.range_succ, List.map_append, List.flatten_append, ih, List.map_append]; rfl
theorem off_lst {C : Addr} {m : Nat} {ca : Nat → V} {ad : Ky → Addr} {s : S} {G H H' : Hp} (a : At C m ca ad s G H) {b : Addr} (nb : H b = none) : off m ad H' b = H' b := off_of fun k hk => a.fresh hk nb
theorem st9 (hr : Room 3 (XL P w K mg base f cdv A outer s H0 E).A) (cf : C8.Cal P w K mg base 1 "_law_flat" spFlat []) : PS (XL P w K mg base f cdv A outer s H0 E) (lawIn 9) (tHo (P10 C l d T1 T2) (P11 C l d T1 T2)) := by
  refine ps_ho (ps_set (i := 17) scLaw.nd rfl (Or.inl rfl) (C8.pe_c cf hr (by decide) rfl (pa_cons
    (pe_lc (own := [("_law_row", 18)]) (g := gName 18) (tt := tYes) rfl scLaw.nd (pi_list (pv 4)) (blkOk_by (own := [("_law_row", 18)]) (N := NL) (sc := defScope sLaw) (by decide +kernel))
      (fun _ _ _ _ _ => pg_name (i := 18) scLaw.nd rfl (Or.inl rfl)) (fun _ _ _ _ _ => pts_nil)
      (fun _ _ _ _ _ => pe_lc (own := [("_law_one", 7), ("_law_gate", 8), ("_law_cell", 13)]) (wi := iList K (tVar 18)) (g := gTup K 3 (gCons (gName 7) (gCons (gName 8) (gCons (gName 13) gNil)))) (tt := tYes) rfl scLaw.nd (pi_list (pv 18)) (blkOk_by (own := [("_law_one", 7), ("_law_gate", 8), ("_law_cell", 13)]) (by rfl))
        (fun _ _ _ _ _ => pg_tup rfl (pgs_cons (pg_name (i := 7) scLaw.nd rfl (Or.inl rfl)) (pgs_cons (pg_name (i := 8) scLaw.nd rfl (Or.inl rfl)) (pgs_cons (pg_name (i := 13) scLaw.nd rfl (Or.inl rfl)) pgs_nil)))) (fun _ _ _ _ _ => pts_nil)
        (fun _ _ _ _ _ => pv 13))) pa_nil))) ?_
  rintro D σ H ⟨scr, v5, v6, v7, v8, v9, v10, v13, Z, G, wn, ft, rfl, fit, a, kn, hwn, hft⟩ k
  have n9 := fit.n9
  have ai := kn.ai
  refine ⟨_, rfl, Z.ar, rfl, ⟨_, SqL.of (a.same _ _ ai.aa.lst)⟩, fun B nB => ?_⟩
  refine lc_list (K := K) (a := Z.ar) (xs := refs Z.arr.length Z.al) (fun t H2 => Same H H2 ∧ ∃ ps : List Addr, H2 B = some (.lst (ps.map V.ref)) ∧ ps.length = t ∧ ∀ (i : Nat) (p : Addr), ps[i]? = some p → H2 p = some (.lst [cOf Z.tk i]) ∧ p ≠ B)
    ⟨same_new nB, [], upd_same, rfl, fun i p e => by cases e⟩ (fun t H2 _ h => SqL.of (h.1 _ _ (a.same _ _ ai.aa.lst))) ?_ ?_
  · rintro t x H2 ht ⟨s2, ps, hB, hps, hpv⟩
    have htn : t < Z.arr.length := by
      have := (List.getElem?_eq_some_iff.mp ht).1
      rwa [refs_len] at this
    obtain rfl : V.ref (Z.al t) = x := Option.some.inj ((refs_at htn).symm.trans ht)
    obtain ⟨p, hp⟩ : ∃ p, Z.arr[t]? = some p := ⟨Z.arr[t], List.getElem?_eq_getElem htn⟩
    refine ⟨wipe1, ?_⟩
    dsimp only [tYes]
    rw [if_pos rfl]
    have hrow := s2 _ _ (a.same _ _ (ai.aa.row t htn))
    have htup := s2 _ _ (a.same _ _ (ai.aa.tup t p hp))
    refine ⟨_, rfl, Z.al t, rfl, ⟨_, SqL.of hrow⟩, fun B2 nB2 => ?_⟩
    refine lc_list (K := K) (a := Z.al t) (xs := [V.ref (Z.am t)]) (fun j H3 => Same H2 H3 ∧ ((j = 0 ∧ H3 B2 = some (.lst [])) ∨ (j = 1 ∧ H3 B2 = some (.lst [cOf Z.tk t]))))
      ⟨same_new nB2, .inl ⟨rfl, upd_same⟩⟩ (fun j H3 _ h => SqL.of (h.1 _ _ hrow)) ?_ ?_
    · rintro j x H3 hj ⟨s3, hB3⟩
      obtain rfl : j = 0 := by
        have := (List.getElem?_eq_some_iff.mp hj).1
        simpa using this
      obtain rfl : V.ref (Z.am t) = x := by simpa using hj
      have hB3 : H3 B2 = some (.lst []) := by
        rcases hB3 with ⟨_, e⟩ | ⟨e, _⟩
        · exact e
        · cases e
      refine ⟨Z.am t, _, rfl, SqT.of (s3 _ _ htup), rfl, _, _, rfl, _, _, rfl, _, _, rfl, rfl, rfl, ?_⟩
      dsimp only [tYes]
      rw [if_pos rfl]
      refine ⟨_, rfl, [], hB3, by decide, fun b u e => ?_, .inr ⟨rfl, upd_same⟩⟩
      rw [upd_ne (ne_of_none e nB2)]
      exact s3 _ _ e
    · rintro H3 ⟨s3, hB3⟩
      have hB3 : H3 B2 = some (.lst [cOf Z.tk t]) := by
        rcases hB3 with ⟨e, _⟩ | ⟨_, e⟩
        · cases e
        · exact e
      have hBB : B2 ≠ B := fun z => by rw [z, hB] at nB2; cases nB2
      refine ⟨_, s3 _ _ hB, by rw [List.length_map, hps]; exact Nat.lt_of_lt_of_le (by omega : t < 1000) (by decide), fun b u e => ?_, ps ++ [B2], ?_, by rw [List.length_append, hps]; rfl, fun i q e => ?_⟩
      · rw [upd_ne (ne_of_none e nB)]
        exact s3 _ _ (s2 _ _ e)
      · rw [upd_same, List.map_append]; rfl
      · rcases snoc_at e with ⟨h1, h2⟩ | ⟨h1, h2⟩
        · obtain ⟨g1, g2⟩ := hpv i q h2
          exact ⟨by rw [upd_ne g2]; exact s3 _ _ g1, g2⟩
        · rw [h2, h1, hps]
          exact ⟨by rw [upd_ne hBB]; exact hB3, hBB⟩
  · rintro H2 ⟨s2, ps, hB, hps, hpv⟩
    rw [refs_len] at hps
    refine ⟨B, ps, (List.range Z.arr.length).map fun k => [cOf Z.tk k], rfl, hB, by rw [hps, List.length_map, List.length_range], fun i p e => ?_, ?_, fun H3 q s3 q0 hq => ?_⟩
    · have hi : i < Z.arr.length := by
        have := (List.getElem?_eq_some_iff.mp e).1
        omega
      exact ⟨[cOf Z.tk i], by rw [List.getElem?_map, List.getElem?_range hi]; rfl, (hpv i p e).1⟩
    · rw [flat_one, List.length_map, List.length_range]; omega
    · rw [flat_one] at hq
      have s4 := s2.trans s3
      obtain ⟨a2, sG, tu⟩ := a.grow s4
      have hGq : off Z.m Z.ad H3 q = some (.lst (cellsV Z)) := (off_lst a (s2.free q0)).trans hq
      exact k _ _ ⟨scr, v5, v6, v7, v8, v9, v10, v13, Z, _, wn, ft, q, rfl, fit, a2, kn.mono (SameD.of sG), sG _ _ hwn, sG _ _ hft, hGq⟩
end
end K44

set_option Elab.async false
set_option maxRecDepth 100000
set_option pp.maxSteps 600
set_option linter.all false
namespace K44
open PySem L2
theorem valV_mem0 {κ : Type} [DecidableEq κ] : ∀ {kvs : List (κ × V)} {k : κ} {v : V}, (kvs.map (·.1)).Nodup → (k, v) ∈ kvs → valV kvs k = some v
  | [], _, _, _, h => by cases h
  | p :: r, k, v, hn, h => by
    rw [List.map_cons] at hn
    obtain ⟨n1, n2⟩ := List.nodup_cons.mp hn
    rcases List.mem_cons.mp h with e | h
    · rw [← e]; exact valV_pos (p := (k, v)) rfl
    · have e : ¬ p.1 = k := fun z => n1 (List.mem_map.mpr ⟨(k, v), h, z.symm⟩)
      rw [valV_neg e]
      exact valV_mem0 n2 h
theorem kvT_nodup {arr L : List (Nat × Nat)} (h : (L.map (·.1)).Nodup) : ((kvT arr L).map (·.1)).Nodup := by
  unfold kvT
  rw [List.map_map]
  refine List.pairwise_map.mpr (List.Pairwise.imp ?_ (List.pairwise_map.mp h))
  intro x y hxy e
  exact hxy (kOf_inj e)
theorem kvT_get {arr L : List (Nat × Nat)} {c t : Nat} (h : (L.map (·.1)).Nodup) (m : (c, t) ∈ L) : valV (kvT arr L) (kOf arr c) = some (V.int (t : Nat)) :=
  valV_mem0 (kvT_nodup h) (List.mem_map.mpr ⟨(c, t), m, rfl⟩)
/-! ### a row of pairs as data -/
open PySem.Spec in
def dd (qs : List PQ) : PyData := .list (qs.map fun q => .tuple [.int q.1, .int q.2])
open PySem.Spec in
theorem dd_can : ∀ qs : List PQ, PyData.canLayAll0 (qs.map fun q => PyData.tuple [.int q.1, .int q.2]) = true
  | [] => rfl
  | q :: r => by
    rw [List.map_cons]
    show (PyData.canLay0 _ && PyData.canLayAll0 _) = true
    rw [dd_can r]; rfl
open PySem.Spec in
theorem dd_deep : ∀ qs : List PQ, PyData.depthAll (qs.map fun q => PyData.tuple [.int q.1, .int q.2]) ≤ 1
  | [] => Nat.zero_le _
  | q :: r => by
    rw [List.map_cons]
    show max (PyData.depth _) (PyData.depthAll _) ≤ 1
    exact Nat.max_le.mpr ⟨Nat.le_refl _, dd_deep r⟩
open PySem.Spec in
theorem dd_shaped (qs : List PQ) : SeqAt.shaped (dd qs) = true := by
  have h2 : (dd qs).depth ≤ 64 := Nat.le_trans (Nat.succ_le_succ (dd_deep qs)) (by decide)
  unfold SeqAt.shaped
  rw [decide_eq_true h2, show (dd qs).canLay0 = true from dd_can qs]
  rfl
open PySem.Spec in
theorem dd_self (qs : List PQ) : PyData.eqv (dd qs) (dd qs) = true := SeqAt.eqv_refl _ (dd_can qs)
open PySem.Spec in
theorem dd_all {K : PySem.W.Frag} {H : Hp} {ys : List V} {qs : List PQ} (h : Paired (PairV H) ys qs) : DpAll K H ys (qs.map fun q => PyData.tuple [.int q.1, .int q.2]) := by
  induction h with
  | nil => exact .nil
  | cons a _ ih =>
    obtain ⟨t, rfl, e⟩ := a
    exact .cons (.tup (SqT.of e) (.cons (.int _) (.cons (.int _) .nil))) ih
theorem dd_at {K : PySem.W.Frag} {H : Hp} {p : Addr} {ys : List V} {qs : List PQ} (hp : H p = some (.lst ys)) (h : Paired (PairV H) ys qs) : Dp K H (.ref p) (dd qs) := .lst (SqL.of hp) (dd_all h)
theorem PairV.mono {H H' : Hp} (t : Tups H H') {v : V} {q : PQ} (h : PairV H v q) : PairV H' v q := TupV.mono t h
/-- a cell as a pair -/
def cp (arr : List (Nat × Nat)) (c : Nat) : PQ := ((c : Int), (((arr.getD c (0, 0)).1 : Nat) : Int))
theorem kvT_keys (arr L : List (Nat × Nat)) : (kvT arr L).map (·.1) = (L.map fun p => cp arr p.1).map (fun q => [Sum.inl q.1, Sum.inl q.2]) := by
  unfold kvT
  rw [List.map_map, List.map_map]
  rfl
theorem fi_all {n N : Nat} (h : n ≤ N) : fi n N = (List.range n).map fun k => (k, k) := by
  unfold fi
  rw [show min N n = n by omega]
section
variable {P : Program} {w : World} {K : PySem.W.Frag} {mg : Str → Option Value} {base : Heap} {f : Addr} {cdv : Value} {A : Around} {outer : List Env} {s : Shared} {H0 : Hp} {E : XK} {C I l d T1 T2 : Addr}
def P12 (C l d T1 T2 : Addr) (σ : L2.St) (H : Hp) : Prop := ∃ scr v4 v5 v6 v7 v8 v9 v10 v11 v12 v13 v14 v15 v16 v17, ∃ (D : Dt) (G : Hp),
  σ = SG scr (some (.ref d)) (some (.int D.m)) (some (.ref (D.ad .ins))) v4 v5 v6 v7 v8 v9 v10 v11 v12 v13 v14 v15 v16 v17 ∧ D.Fit ∧ At C D.m (cOf D.tk) D.ad D.fs G H ∧ Kn l d T1 T2 D G
theorem st10 (hr : Room 3 (XL P w K mg base f cdv A outer s H0 E).A) (T : Txt K mg C I) : PS (XL P w K mg base f cdv A outer s H0 E) (lawIn 10) (tHo (P11 C l d T1 T2) (P12 C l d T1 T2)) := by
  refine ps_ho (ps_if (PW.pt (pw_or (pt_cmpR (op_neD hr.units) (pe_callB (cr_sortedDT rfl) (by rfl) T.sorted (by decide +kernel) (pa_cons (pv 15) pa_nil)) (pe_callB cr_sortedQ (by rfl) T.sorted (by decide +kernel) (pa_cons (pv 17) pa_nil)) (nomark _))
      (pw_or (pt_cmpR (op_neD hr.units) (pe_callB (cr_sortedDT rfl) (by rfl) T.sorted (by decide +kernel) (pa_cons (pv 16) pa_nil)) (pe_callB cr_sortedQ (by rfl) T.sorted (by decide +kernel) (pa_cons (pv 17) pa_nil)) (nomark _))
      (pw_or1 (pt_cmpR (op_neNil hr.units0) (pe_lc (own := [("_law_cell", 13)]) (g := gName 13) rfl scLaw.nd (pi_list (pv 17)) (blkOk_by (own := [("_law_cell", 13)]) (N := NL) (sc := defScope sLaw) (by decide +kernel))
          (fun _ _ _ _ _ => pg_name (i := 13) scLaw.nd rfl (Or.inl rfl))
          (fun _ _ _ _ _ => pts_one (PW.pt (pw_or (pt_cmpR op_lt (pe_dget (hu_of hr) (pv 15) (pv 13) (fun _ _ => rfl)) (pe_ix (r := rIxT K) ix_tup (pv 13) pe_int (fun _ _ => rfl)) (nomark _)) (pw_or1 (pt_cmpR op_gt (pe_dget (hu_of hr) (pv 16) (pv 13) (fun _ _ => rfl)) (pe_dget (hu_of hr) (pv 15) (pv 13) (fun _ _ => rfl)) (nomark _))))))
          (fun _ _ _ _ _ => pv 13)) (pe_lst pa_nil) (nomark _)))))) (pss_one (ps_ret pe_bl)) pss_nil) ?_
  rintro D σ H ⟨scr, v5, v6, v7, v8, v9, v10, v13, Z, G, wn, ft, cl, rfl, fit, a, kn, hwn, hft, hcl⟩ k
  have hNb := slots_le fit.m3 fit.n9
  rw [← fit.hN] at hNb
  have hperm := fit.fine.perm
  rw [← fit.hN] at hperm
  have hlate := fit.fine.late
  rw [← fit.hN] at hlate
  have hfi := fi_all hNb.1
  rw [hfi] at hft
  have hnd1 : ((wh Z.sent Z.N).map (·.1)).Nodup := hperm.nodup_iff.mpr List.nodup_range
  have hnd2 : (((List.range Z.arr.length).map fun k => (k, k)).map (·.1)).Nodup := by
    rw [List.map_map]
    exact List.pairwise_map.mpr (List.Pairwise.imp (fun h e => h e) List.nodup_range)
  have hpc1 : ((wh Z.sent Z.N).map fun p => cp Z.arr p.1).Perm ((List.range Z.arr.length).map (cp Z.arr)) := by
    have := hperm.map (cp Z.arr)
    rwa [List.map_map] at this
  have hpc2 : (((List.range Z.arr.length).map fun k => (k, k)).map fun p => cp Z.arr p.1) = (List.range Z.arr.length).map (cp Z.arr) := by
    rw [List.map_map]; rfl
  have hwn0 := a.same _ _ hwn
  have hft0 := a.same _ _ hft
  have hcl0 := a.same _ _ hcl
  have hcell : ∀ c, c < Z.arr.length → H (Z.tk c) = some (.tup [.int (c : Nat), .int ((Z.arr.getD c (0, 0)).1 : Nat)]) := fun c hc => by
    have hp : Z.arr[c]? = some Z.arr[c] := List.getElem?_eq_getElem hc
    rw [List.getD_eq_getElem?_getD, hp]
    exact a.same _ _ (kn.ai.cell c _ hp)
  have hcp : Paired (PairV H) (cellsV Z) ((List.range Z.arr.length).map (cp Z.arr)) := pair_map _ fun c hc => ⟨Z.tk c, rfl, hcell c (List.mem_range.mp hc)⟩
  -- when
  refine ⟨_, rfl, wn, _, _, rfl, .inl hwn0, kvT_keys _ _, fun qs1 ys1 p1 h1 e1 r1 np1 => ?_⟩
  have s1 : Same H (upd H p1 (.lst ys1)) := same_new np1
  have hp1 : upd H p1 (.lst ys1) p1 = some (.lst ys1) := upd_same
  generalize upd H p1 (.lst ys1) = H1 at s1 hp1 ⊢
  refine ⟨_, rfl, cl, _, _, rfl, SqL.of (s1 _ _ hcl0), pair_mono hcp fun _ _ z => z.mono (Tups.same s1), fun qs2 ys2 p2 h2 e2 r2 np2 => ?_⟩
  have s2 : Same H1 (upd H1 p2 (.lst ys2)) := same_new np2
  have hp2 : upd H1 p2 (.lst ys2) p2 = some (.lst ys2) := upd_same
  have t2 : Tups H1 (upd H1 p2 (.lst ys2)) := Tups.same s2
  have hp1' := s2 _ _ hp1
  have s12 := s1.trans s2
  generalize upd H1 p2 (.lst ys2) = H2 at s2 hp2 t2 hp1' s12 ⊢
  obtain rfl : qs1 = qs2 := rise_one r1 r2 ((e1.trans hpc1).trans e2.symm)
  refine ⟨dd qs1, dd qs1, dd_at hp1' (pair_mono h1 fun _ _ z => z.mono (Tups.trans (Tups.same s1) t2)), dd_at hp2 (pair_mono h2 fun _ _ z => z.mono t2), dd_shaped _, dd_shaped _, _, rfl, ?_⟩
  rw [dd_self]
  refine iteF ?_
  -- first
  refine ⟨_, rfl, ft, _, _, rfl, .inl (s12 _ _ hft0), kvT_keys _ _, fun qs3 ys3 p3 h3 e3 r3 np3 => ?_⟩
  have s3 : Same H2 (upd H2 p3 (.lst ys3)) := same_new np3
  have hp3 : upd H2 p3 (.lst ys3) p3 = some (.lst ys3) := upd_same
  have s13 := s12.trans s3
  generalize upd H2 p3 (.lst ys3) = H3 at s3 hp3 s13 ⊢
  refine ⟨_, rfl, cl, _, _, rfl, SqL.of (s13 _ _ hcl0), pair_mono hcp fun _ _ z => z.mono (Tups.same s13), fun qs4 ys4 p4 h4 e4 r4 np4 => ?_⟩
  have s4 : Same H3 (upd H3 p4 (.lst ys4)) := same_new np4
  have hp4 : upd H3 p4 (.lst ys4) p4 = some (.lst ys4) := upd_same
  have t4 : Tups H3 (upd H3 p4 (.lst ys4)) := Tups.same s4
  have hp3' := s4 _ _ hp3
  have s14 := s13.trans s4
  generalize upd H3 p4 (.lst ys4) = H4 at s4 hp4 t4 hp3' s14 ⊢
  rw [hpc2] at e3
  obtain rfl : qs3 = qs4 := rise_one r3 r4 (e3.trans e4.symm)
  refine ⟨dd qs3, dd qs3, dd_at hp3' (pair_mono h3 fun _ _ z => z.mono (Tups.trans (Tups.same s3) t4)), dd_at hp4 (pair_mono h4 fun _ _ z => z.mono t4), dd_shaped _, dd_shaped _, _, rfl, ?_⟩
  rw [dd_self]
  refine iteF ?_
  -- no cell is early, none is late
  have hwn4 := s14 _ _ hwn0
  have hft4 := s14 _ _ hft0
  have hcl4 := s14 _ _ hcl0
  refine ⟨_, rfl, cl, rfl, ⟨_, SqL.of hcl4⟩, fun B nB => ?_⟩
  refine lc_list (K := K) (a := cl) (xs := cellsV Z) (fun t H5 => Same H4 H5 ∧ H5 B = some (.lst [])) ⟨same_new nB, upd_same⟩ (fun t H5 _ h => SqL.of (h.1 _ _ hcl4)) ?_ ?_
  · rintro c x H5 hx ⟨s5, hB⟩
    have hc : c < Z.arr.length := by
      have := (List.getElem?_eq_some_iff.mp hx).1
      unfold cellsV at this
      rwa [List.length_map, List.length_range] at this
    obtain rfl : V.ref (Z.tk c) = x := by
      unfold cellsV at hx
      rw [List.getElem?_map, List.getElem?_range hc] at hx
      exact Option.some.inj hx
    obtain ⟨t, ht⟩ : ∃ t, (c, t) ∈ wh Z.sent Z.N := by
      have hm : c ∈ (wh Z.sent Z.N).map (·.1) := hperm.mem_iff.mpr (List.mem_range.mpr hc)
      obtain ⟨q, hq, e⟩ := List.mem_map.mp hm
      refine ⟨q.2, ?_⟩
      rw [← e]; exact hq
    have hle : c ≤ t := hlate _ ht
    have g1 : valV (kvT Z.arr (wh Z.sent Z.N)) (kOf Z.arr c) = some (V.int (t : Nat)) := kvT_get hnd1 ht
    have g2 : valV (kvT Z.arr ((List.range Z.arr.length).map fun k => (k, k))) (kOf Z.arr c) = some (V.int (c : Nat)) := kvT_get hnd2 (List.mem_map.mpr ⟨c, List.mem_range.mpr hc, rfl⟩)
    have hk5 : H5 (Z.tk c) = some (.tup ((kOf Z.arr c).map kV)) := s5 _ _ (s14 _ _ (hcell c hc))
    refine ⟨wipe1, ?_⟩
    refine ⟨_, rfl, _, rfl, wn, V.int (t : Nat), rfl, by rw [← g1]; exact DGet.t (s5 _ _ hwn4) hk5, ?_⟩
    refine ⟨_, rfl, Z.tk c, _, _, _, rfl, rfl, SqT.of hk5, rfl, _, _, rfl, rfl, _, rfl, ?_⟩
    rw [decide_eq_false (by omega)]
    refine iteF ?_
    refine ⟨_, rfl, _, rfl, ft, V.int (c : Nat), rfl, by rw [← g2]; exact DGet.t (s5 _ _ hft4) hk5, _, rfl, _, rfl, wn, V.int (t : Nat), rfl, by rw [← g1]; exact DGet.t (s5 _ _ hwn4) hk5, _, _, rfl, rfl, _, rfl, ?_⟩
    rw [decide_eq_false (by omega)]
    exact iteF ⟨s5, hB⟩
  · rintro H5 ⟨s5, hB⟩
    refine ⟨Nat.zero_le _, fun q nq => ⟨B, q, [], rfl, rfl, SqL.of ((same_new nq) _ _ hB), SqL.of upd_same, _, rfl, ?_⟩⟩
    refine iteF ?_
    obtain ⟨a6, sG, _⟩ := a.grow ((s14.trans s5).trans (same_new (o := .lst []) nq))
    exact k _ _ ⟨scr, _, v5, v6, v7, v8, v9, v10, _, _, v13, _, _, _, _, Z, _, rfl, fit, a6, kn.mono (SameD.of sG)⟩
/-! ### nothing is left -/
theorem no_short : ∀ (m : Nat) (w r d : Addr) (s : Nat), (fS m w r d s).lookup ("short" : Str) = none := fun m w r d s => fS_no m w r d s (by decide +kernel) (by decide +kernel) (by decide +kernel) (by decide +kernel) (by decide +kernel)
theorem no_left : ∀ (m : Nat) (w r d : Addr) (s : Nat), (fS m w r d s).lookup ("left_inside" : Str) = none := fun m w r d s => fS_no m w r d s (by decide +kernel) (by decide +kernel) (by decide +kernel) (by decide +kernel) (by decide +kernel)
def P13 (l d : Addr) (_ : L2.St) (H : Hp) : Prop := H l = some (.lst [.ref d])
theorem tab_ne {H H2 : Hp} {T b : Addr} {o : HO} (t : GxR.Tabbed T H H2) (hT : GxR.TabG H T) (e : H b = some o) (n : ∀ ps, o ≠ .tbl ps) : H2 b = some o := by
  obtain ⟨ps, hp, _⟩ := hT
  rw [t.2 b (fun z => by rw [z, hp] at e; exact n ps (Option.some.inj e).symm)]
  exact e
theorem st11 (hr : Room 3 (XL P w K mg base f cdv A outer s H0 E).A) (ms : C8.Met P w K mg base 1 C "short" (spBare C T1) []) (ml : C8.Met P w K mg base 1 C "left_inside" (spBare C T2) []) :
    PS (XL P w K mg base f cdv A outer s H0 E) (lawIn 11) (tHo (P12 C l d T1 T2) (P13 l d)) := by
  refine ps_ho (ps_if (PW.pt (pw_or (pt_cmpR op_ne (C8.pe_mt0 ms hr (by decide) (pv 3)) pe_int (nomark _)) (pw_or1 (pt_cmpR op_ne (C8.pe_mt0 ml hr (by decide) (pv 3)) pe_int (nomark _))))) (pss_one (ps_ret pe_bl)) pss_nil) ?_
  rintro D σ H ⟨scr, v4, v5, v6, v7, v8, v9, v10, v11, v12, v13, v14, v15, v16, v17, Z, G, rfl, fit, a, kn⟩ k
  have tabH : ∀ {T : Addr}, GxR.TabG G T → GxR.TabG H T := fun ⟨ps, e, q⟩ => ⟨ps, a.same _ _ e, q⟩
  obtain ⟨dx, hI⟩ := a.rep.all .ins trivial
  have hT1 := tabH kn.bs.t1
  refine ⟨_, rfl, _, dx, _, rfl, hI, no_short _ _ _ _ _, Z.m, cOf Z.tk, Z.ad, Z.fs, rfl, a.rep, fit.fine.bare, hT1, fun H2 t1 => ?_⟩
  refine ⟨rfl, _, rfl, ?_⟩
  rw [decide_eq_true rfl]
  refine iteF ?_
  have r2 := a.rep.tabbed (let ⟨ps, e, _⟩ := hT1; ⟨ps, e⟩) t1
  obtain ⟨dx2, hI2⟩ := r2.all .ins trivial
  have hT2 : GxR.TabG H2 T2 := by
    by_cases h : T2 = T1
    · rw [h]; exact t1.1
    · obtain ⟨ps, e, q⟩ := tabH kn.bs.t2
      exact ⟨ps, (t1.2 _ h).trans e, q⟩
  have hl2 := tab_ne t1 hT1 (a.same _ _ kn.bs.lst) (fun _ z => by cases z)
  refine ⟨_, rfl, _, dx2, _, rfl, hI2, no_left _ _ _ _ _, Z.m, cOf Z.tk, Z.ad, Z.fs, rfl, r2, fit.fine.bare, hT2, fun H3 t2 => ?_⟩
  refine ⟨rfl, _, rfl, ?_⟩
  rw [decide_eq_true rfl]
  refine iteF ?_
  exact k _ _ (tab_ne t2 hT2 hl2 (fun _ z => by cases z))
end
end K44

set_option Elab.async false
set_option maxRecDepth 100000
set_option pp.maxSteps 600
set_option linter.all false
namespace K44
open PySem L2
theorem ps_fam {X : Cx} {st : Stmt} {ι : Type} {Pre Post : ι → L2.St → Hp → Prop} (h : ∀ i, PS X st (tHo (Pre i) (Post i))) : PS X st (fun D σ H => ∃ i, tHo (Pre i) (Post i) D σ H) :=
  ⟨fun pins s σ H D I ⟨i, hw⟩ => (h i).run pins s σ H D I hw⟩
section
variable {P : Program} {w : World} {K : PySem.W.Frag} {mg : Str → Option Value} {base : Heap} {C I T1 T2 : Addr}
def spLaw (K : PySem.W.Frag) (T1 T2 : Addr) : Sp := fun vs H Q _ => ∃ (a : Addr) (ns : List Int), vs = [.ref a] ∧ SqL K H a (ns.map V.int) ∧ H T1 = some (.tbl #[]) ∧ H T2 = some (.tbl #[]) ∧ ∀ H', Q (.bl true) H'
theorem ok_law {f : Addr} {fd : FuncData} (F : Fun K "law" "law" sLaw f fd) (T : Txt K mg C I)
    (cRo : C8.Cal P w K mg base 2 "_law_rounds" (spRounds K) []) (cr : C8.Cal P w K mg base 1 "_law_roll" spRoll []) (cf : C8.Cal P w K mg base 1 "_law_flat" spFlat []) (cru : C8.Cal P w K mg base 3 "ideal_run" spRun [])
    (mk : C8.Mak P w K mg base 1 "Spread" C (spInit C) []) (mp : C8.Met P w K mg base 1 C "put" (spPut C) []) (mt : C8.Met P w K mg base 2 C "turn" (spTurn C) [])
    (ms : C8.Met P w K mg base 1 C "short" (spBare C T1) []) (ml : C8.Met P w K mg base 1 C "left_inside" (spBare C T2) []) : FnOk P w K mg base CX0 4 f fd ["_law_script"] (spLaw K T1 T2) := by
  refine F.ok scLaw (fun vs H Q E h => ?_) (fun cdv A outer s H vs Q E hr h => ?_)
  · obtain ⟨a, ns, rfl, _⟩ := h
    rfl
  · obtain ⟨a, ns, rfl, ha, h1, h2, k⟩ := h
    refine ⟨_, pss_cons (ps_for PassesOwn.never rfl (pi_list (C8.pe_c cRo hr (by decide) rfl (pa_cons (pv 0) (pa_cons pe_int pa_nil)))) (pg_name (i := 1) scLaw.nd rfl (Or.inl rfl))
        (pss_cons (ps_fam (ι := Addr × Addr) fun i => st0 (l := i.1) (d := i.2) (T1 := T1) (T2 := T2) hr cr)
        (pss_cons (ps_fam (ι := Addr × Addr) fun i => st1 (C := C) (l := i.1) (d := i.2) (T1 := T1) (T2 := T2) hr mk)
        (pss_cons (ps_fam (ι := Addr × Addr) fun i => st2 (C := C) (l := i.1) (d := i.2) (T1 := T1) (T2 := T2) hr T cr)
        (pss_cons (ps_fam (ι := Addr × Addr) fun i => st3 (C := C) (l := i.1) (d := i.2) (T1 := T1) (T2 := T2) T)
        (pss_cons (ps_fam (ι := Addr × Addr) fun i => st4 (C := C) (l := i.1) (d := i.2) (T1 := T1) (T2 := T2) T)
        (pss_cons (ps_fam (ι := Addr × Addr) fun i => st5 (C := C) (l := i.1) (d := i.2) (T1 := T1) (T2 := T2) hr T mp mt)
        (pss_cons (ps_fam (ι := Addr × Addr) fun i => st6 (C := C) (l := i.1) (d := i.2) (T1 := T1) (T2 := T2) hr cru)
        (pss_cons (ps_fam (ι := Addr × Addr) fun i => st7 (C := C) (l := i.1) (d := i.2) (T1 := T1) (T2 := T2))
        (pss_cons (ps_fam (ι := Addr × Addr) fun i => st8 (C := C) (l := i.1) (d := i.2) (T1 := T1) (T2 := T2) hr T)
        (pss_cons (ps_fam (ι := Addr × Addr) fun i => st9 (C := C) (l := i.1) (d := i.2) (T1 := T1) (T2 := T2) hr cf)
        (pss_cons (ps_fam (ι := Addr × Addr) fun i => st10 (C := C) (l := i.1) (d := i.2) (T1 := T1) (T2 := T2) hr T)
        (pss_one (ps_fam (ι := Addr × Addr) fun i => st11 (C := C) (l := i.1) (d := i.2) (T1 := T1) (T2 := T2) hr ms ml))))))))))))))
      (pss_one (ps_ret pe_bl)), ?_⟩
    refine ⟨_, rfl, a, ns, rfl, ha, fun H1 l d x y z s1 hl hd => ?_⟩
    refine ⟨l, rfl, ⟨_, SqL.of hl⟩, for_list (K := K) (a := l) (xs := [V.ref d]) (fun i σ H' => H' l = some (.lst [.ref d]) ∧ (i = 0 → ∃ scr, σ = SG scr none none none none none none none none none none none none none none none none none ∧ Bs l d T1 T2 H'))
      ⟨hl, fun _ => ⟨_, rfl, hl, ⟨x, y, z, hd⟩, ⟨#[], s1 _ _ h1, trivial⟩, ⟨#[], s1 _ _ h2, trivial⟩⟩⟩ (fun i σ H' _ h => SqL.of h.1) ?_ ?_⟩
    · rintro i v σ H' hi ⟨_, h⟩
      obtain rfl : i = 0 := by
        have := (List.getElem?_eq_some_iff.mp hi).1
        simpa using this
      obtain rfl : V.ref d = v := by simpa using hi
      obtain ⟨scr, rfl, b⟩ := h rfl
      refine ⟨(l, d), ⟨scr, rfl, b⟩, fun _ _ p => ⟨(l, d), p, fun _ _ p => ⟨(l, d), p, fun _ _ p => ⟨(l, d), p, fun _ _ p => ⟨(l, d), p, fun _ _ p => ⟨(l, d), p, fun _ _ p => ⟨(l, d), p, fun _ _ p => ⟨(l, d), p, fun _ _ p => ⟨(l, d), p, fun _ _ p => ⟨(l, d), p, fun _ _ p => ⟨(l, d), p, fun _ _ p => ⟨(l, d), p, fun _ _ p => ⟨p, fun e => ?_⟩⟩⟩⟩⟩⟩⟩⟩⟩⟩⟩⟩⟩
      cases e
    · rintro σ H' _
      exact k H'
end
end K44

set_option Elab.async false
set_option maxRecDepth 100000
set_option pp.maxSteps 600
set_option linter.all false
namespace K44
open PySem L2
/-! ### what the top has written -/
theorem all_mk {l : PySem.W.OpenLaw} {w : World} {K : PySem.W.Frag} {h : Heap} {mg : Str → Option Value} {fa C I f1i f1p f1j f1o f1t f1l f1s f2n f2v f3R f3F f3D f3O f3U f3W : Addr} (X : K.In h) (G : h.Ns mainGlobals mg) (hfa : mg "law" = some (.ref fa))
    (hT : ∀ P ∈ [95, 88], h.get? P = some { cls := .none, data := .fields #[] })
    {od1i an1i od1p an1p od1j an1j od1o an1o od1t an1t od1l an1l od1s an1s od2n an2n od2v an2v od3R an3R od3F an3F od3D an3D od3O an3O od3U an3U od3W an3W : Option Addr} {sl1i sl1p sl1j sl1o sl1t sl1l sl1s sl2n sl2v sl3R sl3F sl3D sl3O sl3U sl3W : Array (Option Value)} {oc1i kV1i dc1i pm1i ct1i cd1i oc1p kV1p dc1p pm1p ct1p cd1p oc1j kV1j dc1j pm1j ct1j cd1j oc1o kV1o dc1o pm1o ct1o cd1o oc1t kV1t dc1t pm1t ct1t cd1t oc1l kV1l dc1l pm1l ct1l oc1s kV1s dc1s pm1s ct1s oc2n kV2n dc2n pm2n ct2n cd2n oc2v kV2v dc2v pm2v ct2v cd2v oc3R kV3R dc3R pm3R ct3R cd3R oc3F kV3F dc3F pm3F ct3F cd3F oc3D kV3D dc3D pm3D ct3D cd3D oc3O kV3O dc3O pm3O ct3O cd3O oc3U kV3U dc3U pm3U ct3U cd3U oc3W kV3W dc3W pm3W ct3W cd3W : Value}
    (zC : PySem.W.nsIn K mainGlobals "Spread" = some (some (.ref C)))
    (zI : PySem.W.nsIn K mainGlobals "Ideal" = some (some (.ref I)))
    (a1i : PySem.W.findIn K (.ref C) "__init__" = some (some (.ref f1i)))
    (i1i : PySem.W.isFn K (.ref f1i) = true)
    (l1i : K.lookup f1i = some ⟨oc1i, od1i, .func (PySem.W.fnOf "__init__" "Spread.__init__" (defArgs sInit) (defBody sInit) (defScope sInit) .none kV1i dc1i pm1i an1i cd1i ct1i), sl1i⟩)
    (c1i : PySem.W.codeIn K cd1i "Spread.__init__" = true)
    (k1i : PySem.W.keepIn K (.ref f1i) = true)
    (a1p : PySem.W.findIn K (.ref C) "put" = some (some (.ref f1p)))
    (i1p : PySem.W.isFn K (.ref f1p) = true)
    (l1p : K.lookup f1p = some ⟨oc1p, od1p, .func (PySem.W.fnOf "put" "Spread.put" (defArgs sPut) (defBody sPut) (defScope sPut) .none kV1p dc1p pm1p an1p cd1p ct1p), sl1p⟩)
    (c1p : PySem.W.codeIn K cd1p "Spread.put" = true)
    (k1p : PySem.W.keepIn K (.ref f1p) = true)
    (a1j : PySem.W.findIn K (.ref C) "joined" = some (some (.ref f1j)))
    (i1j : PySem.W.isFn K (.ref f1j) = true)
    (l1j : K.lookup f1j = some ⟨oc1j, od1j, .func (PySem.W.fnOf "joined" "Spread.joined" (defArgs sJoined) (defBody sJoined) (defScope sJoined) .none kV1j dc1j pm1j an1j cd1j ct1j), sl1j⟩)
    (c1j : PySem.W.codeIn K cd1j "Spread.joined" = true)
    (k1j : PySem.W.keepIn K (.ref f1j) = true)
    (a1o : PySem.W.findIn K (.ref C) "out_of" = some (some (.ref f1o)))
    (i1o : PySem.W.isFn K (.ref f1o) = true)
    (l1o : K.lookup f1o = some ⟨oc1o, od1o, .func (PySem.W.fnOf "out_of" "Spread.out_of" (defArgs sOutOf) (defBody sOutOf) (defScope sOutOf) .none kV1o dc1o pm1o an1o cd1o ct1o), sl1o⟩)
    (c1o : PySem.W.codeIn K cd1o "Spread.out_of" = true)
    (k1o : PySem.W.keepIn K (.ref f1o) = true)
    (a1t : PySem.W.findIn K (.ref C) "turn" = some (some (.ref f1t)))
    (i1t : PySem.W.isFn K (.ref f1t) = true)
    (l1t : K.lookup f1t = some ⟨oc1t, od1t, .func (PySem.W.fnOf "turn" "Spread.turn" (defArgs sTurn) (defBody sTurn) (defScope sTurn) .none kV1t dc1t pm1t an1t cd1t ct1t), sl1t⟩)
    (c1t : PySem.W.codeIn K cd1t "Spread.turn" = true)
    (k1t : PySem.W.keepIn K (.ref f1t) = true)
    (a1l : PySem.W.findIn K (.ref C) "left_inside" = some (some (.ref f1l)))
    (i1l : PySem.W.isFn K (.ref f1l) = true)
    (l1l : K.lookup f1l = some ⟨oc1l, od1l, .func (PySem.W.fnOf "left_inside" "Spread.left_inside" (defArgs sLeft) (defBody sLeft) (defScope sLeft) .none kV1l dc1l pm1l an1l (.ref 92) ct1l), sl1l⟩)
    (c1l : PySem.W.codeIn K (.ref 92) "Spread.left_inside" = true)
    (k1l : PySem.W.keepIn K (.ref f1l) = true)
    (a1s : PySem.W.findIn K (.ref C) "short" = some (some (.ref f1s)))
    (i1s : PySem.W.isFn K (.ref f1s) = true)
    (l1s : K.lookup f1s = some ⟨oc1s, od1s, .func (PySem.W.fnOf "short" "Spread.short" (defArgs sShort) (defBody sShort) (defScope sShort) .none kV1s dc1s pm1s an1s (.ref 99) ct1s), sl1s⟩)
    (c1s : PySem.W.codeIn K (.ref 99) "Spread.short" = true)
    (k1s : PySem.W.keepIn K (.ref f1s) = true)
    (a2n : PySem.W.findIn K (.ref I) "__init__" = some (some (.ref f2n)))
    (i2n : PySem.W.isFn K (.ref f2n) = true)
    (l2n : K.lookup f2n = some ⟨oc2n, od2n, .func (PySem.W.fnOf "__init__" "Ideal.__init__" (defArgs sIdeal) (defBody sIdeal) (defScope sIdeal) .none kV2n dc2n pm2n an2n cd2n ct2n), sl2n⟩)
    (c2n : PySem.W.codeIn K cd2n "Ideal.__init__" = true)
    (k2n : PySem.W.keepIn K (.ref f2n) = true)
    (a2v : PySem.W.findIn K (.ref I) "leaving" = some (some (.ref f2v)))
    (i2v : PySem.W.isFn K (.ref f2v) = true)
    (l2v : K.lookup f2v = some ⟨oc2v, od2v, .func (PySem.W.fnOf "leaving" "Ideal.leaving" (defArgs sLeaving) (defBody sLeaving) (defScope sLeaving) .none kV2v dc2v pm2v an2v cd2v ct2v), sl2v⟩)
    (c2v : PySem.W.codeIn K cd2v "Ideal.leaving" = true)
    (k2v : PySem.W.keepIn K (.ref f2v) = true)
    (a3R : PySem.W.nsIn K mainGlobals "ideal_run" = some (some (.ref f3R)))
    (l3R : K.lookup f3R = some ⟨oc3R, od3R, .func (PySem.W.fnOf "ideal_run" "ideal_run" (defArgs sRun) (defBody sRun) (defScope sRun) .none kV3R dc3R pm3R an3R cd3R ct3R), sl3R⟩)
    (c3R : PySem.W.codeIn K cd3R "ideal_run" = true)
    (k3R : PySem.W.keepIn K (.ref f3R) = true)
    (a3F : PySem.W.nsIn K mainGlobals "_law_flat" = some (some (.ref f3F)))
    (l3F : K.lookup f3F = some ⟨oc3F, od3F, .func (PySem.W.fnOf "_law_flat" "_law_flat" (defArgs sFlat) (defBody sFlat) (defScope sFlat) .none kV3F dc3F pm3F an3F cd3F ct3F), sl3F⟩)
    (c3F : PySem.W.codeIn K cd3F "_law_flat" = true)
    (k3F : PySem.W.keepIn K (.ref f3F) = true)
    (a3D : PySem.W.nsIn K mainGlobals "_law_dice" = some (some (.ref f3D)))
    (l3D : K.lookup f3D = some ⟨oc3D, od3D, .func (PySem.W.fnOf "_law_dice" "_law_dice" (defArgs sDice) (defBody sDice) (defScope sDice) .none kV3D dc3D pm3D an3D cd3D ct3D), sl3D⟩)
    (c3D : PySem.W.codeIn K cd3D "_law_dice" = true)
    (k3D : PySem.W.keepIn K (.ref f3D) = true)
    (a3O : PySem.W.nsIn K mainGlobals "_law_roll" = some (some (.ref f3O)))
    (l3O : K.lookup f3O = some ⟨oc3O, od3O, .func (PySem.W.fnOf "_law_roll" "_law_roll" (defArgs sRoll) (defBody sRoll) (defScope sRoll) .none kV3O dc3O pm3O an3O cd3O ct3O), sl3O⟩)
    (c3O : PySem.W.codeIn K cd3O "_law_roll" = true)
    (k3O : PySem.W.keepIn K (.ref f3O) = true)
    (a3U : PySem.W.nsIn K mainGlobals "_law_rounds" = some (some (.ref f3U)))
    (l3U : K.lookup f3U = some ⟨oc3U, od3U, .func (PySem.W.fnOf "_law_rounds" "_law_rounds" (defArgs sRounds) (defBody sRounds) (defScope sRounds) .none kV3U dc3U pm3U an3U cd3U ct3U), sl3U⟩)
    (c3U : PySem.W.codeIn K cd3U "_law_rounds" = true)
    (k3U : PySem.W.keepIn K (.ref f3U) = true)
    (a3W : PySem.W.nsIn K mainGlobals "law" = some (some (.ref f3W)))
    (l3W : K.lookup f3W = some ⟨oc3W, od3W, .func (PySem.W.fnOf "law" "law" (defArgs sLaw) (defBody sLaw) (defScope sLaw) .none kV3W dc3W pm3W an3W cd3W ct3W), sl3W⟩)
    (c3W : PySem.W.codeIn K cd3W "law" = true)
    (k3W : PySem.W.keepIn K (.ref f3W) = true)
    (pgC : PySem.W.plainGet K C Str.empty = true)
    (hdC : PySem.W.hasDictIn K C = true)
    (poC : PySem.W.plainOver K C = true)
    (saC : PySem.W.findIn K (.ref C) "__setattr__" = some (some (.builtin "object.__setattr__")))
    (mkC : PySem.W.makesIn K C = true)
    (kcC : PySem.W.keepIn K (.ref C) = true)
    (pgI : PySem.W.plainGet K I Str.empty = true)
    (hdI : PySem.W.hasDictIn K I = true)
    (poI : PySem.W.plainOver K I = true)
    (saI : PySem.W.findIn K (.ref I) "__setattr__" = some (some (.builtin "object.__setattr__")))
    (mkI : PySem.W.makesIn K I = true)
    (kcI : PySem.W.keepIn K (.ref I) = true)
    (nMany : PySem.W.findIn K (.ref C) "many" = some none)
    (nWait : PySem.W.findIn K (.ref C) "waiting" = some none)
    (nRows : PySem.W.findIn K (.ref C) "rows" = some none)
    (nMid : PySem.W.findIn K (.ref C) "middle" = some none)
    (nSlot : PySem.W.findIn K (.ref C) "slot" = some none)
    (nFree : PySem.W.findIn K (.ref I) "free" = some none)
    (g_range : PySem.W.nsIn K mainGlobals "range" = some none)
    (g_len : PySem.W.nsIn K mainGlobals "len" = some none)
    (g_tuple : PySem.W.nsIn K mainGlobals "tuple" = some none)
    (g_sum : PySem.W.nsIn K mainGlobals "sum" = some none)
    (g_max : PySem.W.nsIn K mainGlobals "max" = some none)
    (g_enumerate : PySem.W.nsIn K mainGlobals "enumerate" = some none)
    (g_sorted : PySem.W.nsIn K mainGlobals "sorted" = some none)
    (g_abs : PySem.W.nsIn K mainGlobals "abs" = some none)
    (g_int : PySem.W.nsIn K mainGlobals "int" = some none)
    (g_dict : PySem.W.nsIn K mainGlobals "dict" = some none)
    (u1 : K.lookup 95 = none)
    (u2 : K.lookup 88 = none)
    (h1 : PySem.W.codeHdIn K 99 95 = true)
    (h2 : PySem.W.codeHdIn K 92 88 = true)
    : LamX.LawAtS l w K CX0 4 63 "_law_script" mg fa h := by
  have e := hfa.symm.trans (PySem.W.mg_of X G a3W)
  cases e
  have T : Txt K mg C I := ⟨⟨pgC, hdC, poC, saC⟩, nMany, nWait, nRows, nMid, nSlot, PySem.W.mg_of X G zC, ⟨pgI, hdI, poI, saI⟩, nFree, PySem.W.mg_of X G zI, PySem.W.mg_none_of X G g_range, PySem.W.mg_none_of X G g_len, PySem.W.mg_none_of X G g_tuple, PySem.W.mg_none_of X G g_sum, PySem.W.mg_none_of X G g_max, PySem.W.mg_none_of X G g_enumerate, PySem.W.mg_none_of X G g_sorted, PySem.W.mg_none_of X G g_abs, PySem.W.mg_none_of X G g_int, PySem.W.mg_none_of X G g_dict⟩
  have F1i := fun_mk (st := sInit) l1i c1i k1i
  have F1p := fun_mk (st := sPut) l1p c1p k1p
  have F1j := fun_mk (st := sJoined) l1j c1j k1j
  have F1o := fun_mk (st := sOutOf) l1o c1o k1o
  have F1t := fun_mk (st := sTurn) l1t c1t k1t
  have F1l := funC_mk (st := sLeft) l1l c1l
  have F1s := funC_mk (st := sShort) l1s c1s
  have F2n := fun_mk (st := sIdeal) l2n c2n k2n
  have F2v := fun_mk (st := sLeaving) l2v c2v k2v
  have F3R := fun_mk (st := sRun) l3R c3R k3R
  have F3F := fun_mk (st := sFlat) l3F c3F k3F
  have F3D := fun_mk (st := sDice) l3D c3D k3D
  have F3O := fun_mk (st := sRoll) l3O c3O k3O
  have F3U := fun_mk (st := sRounds) l3U c3U k3U
  have F3W := fun_mk (st := sLaw) l3W c3W k3W
  have b1i := F1i.binds (ps := ["self", "many"]) fun _ _ _ _ _ _ us hl => match us, hl with | [_, _], _ => rfl
  have b1p := F1p.binds (ps := ["self", "one", "gate", "cell"]) fun _ _ _ _ _ _ us hl => match us, hl with | [_, _, _, _], _ => rfl
  have b1j := F1j.binds (ps := ["self", "one"]) fun _ _ _ _ _ _ us hl => match us, hl with | [_, _], _ => rfl
  have b1o := F1o.binds (ps := ["self", "place"]) fun _ _ _ _ _ _ us hl => match us, hl with | [_, _], _ => rfl
  have b1t := F1t.binds (ps := ["self"]) fun _ _ _ _ _ _ us hl => match us, hl with | [_], _ => rfl
  have b1l := (fun_mk (st := sLeft) l1l c1l k1l).binds (ps := ["self"]) fun _ _ _ _ _ _ us hl => match us, hl with | [_], _ => rfl
  have b1s := (fun_mk (st := sShort) l1s c1s k1s).binds (ps := ["self"]) fun _ _ _ _ _ _ us hl => match us, hl with | [_], _ => rfl
  have b2n := F2n.binds (ps := ["self", "many"]) fun _ _ _ _ _ _ us hl => match us, hl with | [_, _], _ => rfl
  have b2v := F2v.binds (ps := ["self", "gate", "slot"]) fun _ _ _ _ _ _ us hl => match us, hl with | [_, _, _], _ => rfl
  have b3R := F3R.binds (ps := ["many", "arrivals", "slots"]) fun _ _ _ _ _ _ us hl => match us, hl with | [_, _, _], _ => rfl
  have b3F := F3F.binds (ps := ["_law_rows"]) fun _ _ _ _ _ _ us hl => match us, hl with | [_], _ => rfl
  have b3D := F3D.binds (ps := ["_law_cell"]) fun _ _ _ _ _ _ us hl => match us, hl with | [_], _ => rfl
  have b3O := F3O.binds (ps := ["_law_dice_here", "_law_many"]) fun _ _ _ _ _ _ us hl => match us, hl with | [_, _], _ => rfl
  have b3U := F3U.binds (ps := ["_law_script", "_law_most"]) fun _ _ _ _ _ _ us hl => match us, hl with | [_, _], _ => rfl
  have b3W := F3W.binds (ps := ["_law_script"]) fun _ _ _ _ _ _ us hl => match us, hl with | [_], _ => rfl
  refine ⟨PySem.W.fnOf "law" "law" (defArgs sLaw) (defBody sLaw) (defScope sLaw) .none kV3W dc3W pm3W an3W cd3W ct3W, [(99, 95), (92, 88)], spLaw K 95 88, ?_, ?_, ?_, fun s u => .of_eq rfl, fun H a ns hl _ ht hS => ⟨a, ns, rfl, hS, ht (99, 95) (by simp), ht (92, 88) (by simp), fun _ => rfl⟩, fun base _ _ hTB => ?_⟩
  · intro p hp
    rcases List.mem_cons.mp hp with e | hp
    · rw [e]; exact hT 95 (by simp)
    · rw [List.mem_singleton.mp hp]; exact hT 88 (by simp)
  · intro p hp
    rcases List.mem_cons.mp hp with e | hp
    · rw [e]; exact u1
    · rw [List.mem_singleton.mp hp]; exact u2
  · intro p hp
    rcases List.mem_cons.mp hp with e | hp
    · rw [e]; exact PySem.W.codeHd_of_K X h1
    · rw [List.mem_singleton.mp hp]; exact PySem.W.codeHd_of_K X h2
  have tb1 : GxR.TabB base mg 99 95 := let t := hTB (99, 95) (by simp); ⟨t.code, t.bm, t.gP⟩
  have tb2 : GxR.TabB base mg 92 88 := let t := hTB (92, 88) (by simp); ⟨t.code, t.bm, t.gP⟩
  have cC : Cls K C := T.cl
  exact ok_law (P := l.prog) (w := w) (base := base) F3W T
    ⟨f3U, _, _, _, ok_rounds F3U T F3D b3D (PySem.W.mg_of X G a3D), PySem.W.mg_of X G a3U, k3U, b3U, .nil⟩
    ⟨f3O, _, _, _, ok_roll F3O T, PySem.W.mg_of X G a3O, k3O, b3O, .nil⟩
    ⟨f3F, _, _, _, ok_flat F3F, PySem.W.mg_of X G a3F, k3F, b3F, .nil⟩
    ⟨f3R, _, _, _, ok_run F3R T F2n b2n ⟨mkI, a2n, i2n, kcI⟩ F2v b2v ⟨a2v, i2v, k2v⟩, PySem.W.mg_of X G a3R, k3R, b3R, .nil⟩
    ⟨f1i, _, _, _, ⟨mkC, a1i, i1i, kcC⟩, ok_init F1i T, T.mgC, b1i, .nil⟩
    ⟨f1p, _, _, _, cC, ⟨a1p, i1p, k1p⟩, ok_put F1p T, b1p, .nil⟩
    ⟨f1t, _, _, _, cC, ⟨a1t, i1t, k1t⟩, ok_turn F1t T F1j b1j ⟨a1j, i1j, k1j⟩ F1o b1o ⟨a1o, i1o, k1o⟩, b1t, .nil⟩
    ⟨f1s, _, _, _, cC, ⟨a1s, i1s, k1s⟩, ok_short F1s T tb1, b1s, .nil⟩
    ⟨f1l, _, _, _, cC, ⟨a1l, i1l, k1l⟩, ok_left F1l T tb2, b1l, .nil⟩
end K44

open PySem PySem.W PyProof.Rows
set_option Elab.async false
set_option pp.maxSteps 300
local macro_rules | `(tactic| o_head ($_f $K $as $e)) => `(tactic| o_head (PySem.W.kmHook $K $as $e [95, 88]))
set_option maxRecDepth 100000 in
set_option maxHeartbeats 0 in
theorem PySem.Challenge.cw_crossloom_k44_spreads_and_ideal_holds : PySem.Challenge.rw_crossloom_k44_spreads_and_ideal.Holds := by
  w_on; o_law; k_head; (case hw => w_witness2)
  k_fill
  refine LamX.walk_ofTs (n := 63) (k := 4) (x := "_law_script") (CX := fun _ => L2.CX0) rfl (by decide) rfl ⟨rfl, by decide, by decide⟩ (fun w h Y => PySem.W.km_in_of Y) ?F fun _ _ _ _ _ z => z
  case F =>
    intro w mg fa h Y KX G hmg
    refine' K44.all_mk KX G hmg (PySem.W.km_tabs_of Y) ?zC ?zI ?a1i ?i1i ?l1i ?c1i ?k1i ?a1p ?i1p ?l1p ?c1p ?k1p ?a1j ?i1j ?l1j ?c1j ?k1j ?a1o ?i1o ?l1o ?c1o ?k1o ?a1t ?i1t ?l1t ?c1t ?k1t ?a1l ?i1l ?l1l ?c1l ?k1l ?a1s ?i1s ?l1s ?c1s ?k1s ?a2n ?i2n ?l2n ?c2n ?k2n ?a2v ?i2v ?l2v ?c2v ?k2v ?a3R ?l3R ?c3R ?k3R ?a3F ?l3F ?c3F ?k3F ?a3D ?l3D ?c3D ?k3D ?a3O ?l3O ?c3O ?k3O ?a3U ?l3U ?c3U ?k3U ?a3W ?l3W ?c3W ?k3W ?pgC ?hdC ?poC ?saC ?mkC ?kcC ?pgI ?hdI ?poI ?saI ?mkI ?kcI ?nMany ?nWait ?nRows ?nMid ?nSlot ?nFree ?g_range ?g_len ?g_tuple ?g_sum ?g_max ?g_enumerate ?g_sorted ?g_abs ?g_int ?g_dict ?u1 ?u2 ?h1 ?h2
    (case zC => k_is)
    (case zI => k_is)
    (case a1i => k_is)
    (case i1i => k_is)
    (case l1i => k_is)
    (case c1i => k_is)
    (case k1i => k_is)
    (case a1p => k_is)
    (case i1p => k_is)
    (case l1p => k_is)
    (case c1p => k_is)
    (case k1p => k_is)
    (case a1j => k_is)
    (case i1j => k_is)
    (case l1j => k_is)
    (case c1j => k_is)
    (case k1j => k_is)
    (case a1o => k_is)
    (case i1o => k_is)
    (case l1o => k_is)
    (case c1o => k_is)
    (case k1o => k_is)
    (case a1t => k_is)
    (case i1t => k_is)
    (case l1t => k_is)
    (case c1t => k_is)
    (case k1t => k_is)
    (case a1l => k_is)
    (case i1l => k_is)
    (case l1l => k_is)
    (case c1l => k_is)
    (case k1l => k_is)
    (case a1s => k_is)
    (case i1s => k_is)
    (case l1s => k_is)
    (case c1s => k_is)
    (case k1s => k_is)
    (case a2n => k_is)
    (case i2n => k_is)
    (case l2n => k_is)
    (case c2n => k_is)
    (case k2n => k_is)
    (case a2v => k_is)
    (case i2v => k_is)
    (case l2v => k_is)
    (case c2v => k_is)
    (case k2v => k_is)
    (case a3R => k_is)
    (case l3R => k_is)
    (case c3R => k_is)
    (case k3R => k_is)
    (case a3F => k_is)
    (case l3F => k_is)
    (case c3F => k_is)
    (case k3F => k_is)
    (case a3D => k_is)
    (case l3D => k_is)
    (case c3D => k_is)
    (case k3D => k_is)
    (case a3O => k_is)
    (case l3O => k_is)
    (case c3O => k_is)
    (case k3O => k_is)
    (case a3U => k_is)
    (case l3U => k_is)
    (case c3U => k_is)
    (case k3U => k_is)
    (case a3W => k_is)
    (case l3W => k_is)
    (case c3W => k_is)
    (case k3W => k_is)
    (case pgC => k_is)
    (case hdC => k_is)
    (case poC => k_is)
    (case saC => k_is)
    (case mkC => k_is)
    (case kcC => k_is)
    (case pgI => k_is)
    (case hdI => k_is)
    (case poI => k_is)
    (case saI => k_is)
    (case mkI => k_is)
    (case kcI => k_is)
    (case nMany => k_is)
    (case nWait => k_is)
    (case nRows => k_is)
    (case nMid => k_is)
    (case nSlot => k_is)
    (case nFree => k_is)
    (case g_range => k_is)
    (case g_len => k_is)
    (case g_tuple => k_is)
    (case g_sum => k_is)
    (case g_max => k_is)
    (case g_enumerate => k_is)
    (case g_sorted => k_is)
    (case g_abs => k_is)
    (case g_int => k_is)
    (case g_dict => k_is)
    (case u1 => kernel_rfl)
    (case u2 => kernel_rfl)
    (case h1 => kernel_rfl)
    (case h2 => kernel_rfl)
