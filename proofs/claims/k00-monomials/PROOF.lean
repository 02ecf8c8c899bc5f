import PyProof.Rows.All
import Wide.All
import OpenK.AllK
import Wide.FinOn
import HandS.ForMost
import HandS.TupAny
import HandS.IsInst
import HandS.Evl
import KE.SortData
import PySem.Challenge.RW_tiestold_k00_monomials
set_option Elab.async false
set_option maxRecDepth 100000
set_option maxHeartbeats 4000000
namespace Tie
open PySem PySem.Spec PyProof.Rows L2

section
variable {X : Cx} {pins : List (Addr × Obj)} {σ : L2.St} {H : Hp} {s : Shared}

theorem each_of_dp {K : PySem.W.Frag} : ∀ {xs : List V} {its : List Value} {ds : List PyData}, DpAll K H xs ds → Vals xs its → PySem.W.EachIs (fun u d => ∃ v, RelV v u ∧ Dp K H v d) its ds
  | _, _, _, .nil, .nil => .nil
  | _, _, _, .cons h t, .cons r u => .cons ⟨_, r, h⟩ (each_of_dp t u)
theorem dp_of_each {K : PySem.W.Frag} : ∀ {out : List Value} {ds : List PyData}, PySem.W.EachIs (fun u d => ∃ v, RelV v u ∧ Dp K H v d) out ds → ∃ ys, Vals ys out ∧ DpAll K H ys ds
  | _, _, .nil => ⟨[], .nil, .nil⟩
  | _, _, .cons ⟨v, r, h⟩ t => by
    obtain ⟨ys, r2, h2⟩ := dp_of_each t
    exact ⟨v :: ys, .cons r r2, .cons h h2⟩
theorem each_reads (I : Inv X pins σ H s) : ∀ {its : List Value} {ds : List PyData}, PySem.W.EachIs (fun u d => ∃ v, RelV v u ∧ Dp X.K H v d) its ds → PySem.W.EachIs (fun u d => ∃ as, Reads s.heap u (id d) as) its ds
  | _, _, .nil => .nil
  | _, _, .cons ⟨v, r, h⟩ t => .cons (Dp.reads I _ v _ h r) (each_reads I t)

/-- sorted of a list of data of one shape -/
def rSortDat (K : PySem.W.Frag) : List V → Hp → VK → Prop := fun vs H Q => ∃ (a : Addr) (xs : List V) (ds : List PyData), vs = [.ref a] ∧ SqL K H a xs ∧ DpAll K H xs ds ∧ PySem.W.AllAlike ds ∧ PySem.W.Sortable ds ∧ (∀ d ∈ ds, d.depth ≤ 60) ∧
  ∀ ys p, H p = none → DpAll K H ys (ds.mergeSort (PySem.W.dataLe false id)) → ys.length = xs.length → Q (.ref p) (upd H p (.lst ys))
theorem cr_sortDat (hu : X.A.units + 64 < cLine) : CallR X (.builtin "sorted") (rSortDat X.K) := by
  intro pins s σ H vs us Q I r h
  obtain ⟨a, xs, ds, rfl, hs, hd, hal, hk, hdep, q⟩ := h
  obtain ⟨its, rv, hl, hz⟩ := I.list hs
  rw [Vals.ref1 r]
  have e := each_of_dp hd rv
  have hlen0 := rv.length
  have hlenD := e.length
  have hm : ds.map id = ds := List.map_id ds
  refine PySem.W.sorted_data (enc := id) hl.isList e (each_reads I e) (by rw [hm]; exact hal) (by rw [hm]; exact hk) (by omega) (fun b hb => by have := hdep b hb; show _ + 2 + b.depth < _; omega) fun out h1 h2 => ?_
  obtain ⟨ys, r2, h3⟩ := dp_of_each h2
  obtain ⟨ep, he'⟩ := PyProof.Rows.sortedAll_at s.heap its out.toArray
  have hy := r2.length
  exact ⟨.ref _, upd H (s.heap.objs.size + 1) (.lst ys), I.laid (t' := s.toks) (fun _ _ => PyProof.Rows.sortedAll_old) (Nat.le_succ _) ⟨by omega, out, ep, r2, he'⟩, rfl, q ys _ (I.hok.fresh (Nat.le_succ _)) h3 (by omega)⟩
/-- t == (), for a tuple t -/
def rEqE (K : PySem.W.Frag) : R2 := fun x y H Q => ∃ a b xs, x = .ref a ∧ y = .ref b ∧ SqT K H a xs ∧ SqT K H b [] ∧ Q (.bl xs.isEmpty) H
theorem op_eqE (hu : X.A.units + 64 < cLine) : OpR X (compareOp .Eq) (rEqE X.K) := by
  intro pins s σ H x y v u Q I rx ry h
  obtain ⟨a, b, xs, rfl, rfl, ha, hb, q⟩ := h
  cases (show v = Value.ref a from rx)
  cases (show u = Value.ref b from ry)
  obtain ⟨its, rv, pt, _⟩ := I.tuple ha
  obtain ⟨its2, rv2, pt2, _⟩ := I.tuple hb
  cases rv2
  refine SeqAt.eq_tupleAt (e := fun _ => true) pt pt2 (by omega) (fun j h1 h2 => absurd h2 (by simp)) ⟨.bl xs.isEmpty, H, I, ?_, q⟩
  show Value.bool _ = Value.bool _
  cases rv with
  | nil => rfl
  | cons h t => simp
/-- len, list(..), tuple(..) of a list or a tuple, with K said -/
def rLenSeq (K : PySem.W.Frag) : List V → Hp → VK → Prop := fun xs H Q => ∃ p ys, xs = [.ref p] ∧ (SqL K H p ys ∨ SqT K H p ys) ∧ Q (.int ys.length) H
theorem cl_len_seq : CallR X (.builtin "len") (rLenSeq X.K) := call_len_seq
def rLen (K : PySem.W.Frag) : List V → Hp → VK → Prop := fun xs H Q => ∃ x n, xs = [x] ∧ LenV K x H n ∧ Q (.int n) H
theorem cl_len : CallR X (.builtin "len") (rLen X.K) := call_len
def rListOf (K : PySem.W.Frag) : List V → Hp → VK → Prop := fun xs H Q => ∃ p ys, xs = [.ref p] ∧ (SqL K H p ys ∨ SqT K H p ys) ∧ ∀ l, H l = none → Q (.ref l) (upd H l (.lst ys))
theorem cl_list_of : CallR X (.type "list") (rListOf X.K) := call_list_of
def rTupleOf (K : PySem.W.Frag) : List V → Hp → VK → Prop := fun xs H Q => ∃ p ys, xs = [.ref p] ∧ ((SqL K H p ys ∧ ∀ l, H l = none → Q (.ref l) (upd H l (.tup ys))) ∨ (SqT K H p ys ∧ Q (.ref p) H))
theorem cl_tuple_of : CallR X (.type "tuple") (rTupleOf X.K) := call_tuple_of
end
end Tie
namespace Tie
open PySem PySem.Spec PyProof.Rows L2
def topS (i : Nat) : Stmt := PySem.Challenge.pw_tiestold_k00_monomials.main.body.getD i (.Pass ⟨0, 0, 0, 0⟩)
abbrev s_monomials_of : Stmt := topS 1
abbrev s_law_start : Stmt := topS 3
abbrev s_law_draw : Stmt := topS 4
abbrev s_law_one_of : Stmt := topS 5
abbrev s_law_words : Stmt := topS 6
abbrev s_law_is_int : Stmt := topS 7
abbrev s_law_same : Stmt := topS 8
abbrev s_law_longer : Stmt := topS 9
abbrev s_law : Stmt := topS 10

theorem boot_list : bootBuiltins "list" = some (.type "list") := by decide +kernel
theorem boot_tuple : bootBuiltins "tuple" = some (.type "tuple") := by decide +kernel
theorem boot_int : bootBuiltins "int" = some (.type "int") := by decide +kernel
theorem boot_str : bootBuiltins "str" = some (.type "str") := by decide +kernel
theorem boot_bool : bootBuiltins "bool" = some (.type "bool") := by decide +kernel
theorem boot_abs : bootBuiltins "abs" = some (.builtin "abs") := by decide +kernel
theorem boot_all : bootBuiltins "all" = some (.builtin "all") := by decide +kernel
theorem boot_sorted : bootBuiltins "sorted" = some (.builtin "sorted") := by decide +kernel
theorem boot_isinstance : bootBuiltins "isinstance" = some (.builtin "isinstance") := by decide +kernel

/-- the built-ins that the text reads are still those -/
structure Bu (mg : Str → Option Value) : Prop where
  m_range : mg "range" = none
  m_len : mg "len" = none
  m_int : mg "int" = none
  m_abs : mg "abs" = none
  m_list : mg "list" = none
  m_tuple : mg "tuple" = none
  m_str : mg "str" = none
  m_bool : mg "bool" = none
  m_all : mg "all" = none
  m_sorted : mg "sorted" = none
  m_isinstance : mg "isinstance" = none

/-- all but the object at a is as it was -/
def But (a : Addr) (H H' : Hp) : Prop := ∀ b, b ≠ a → H' b = H b
/-- all that was tracked but the object at a is as it was -/
def XA (a : Addr) (H H' : Hp) : Prop := ∀ b o, b ≠ a → H b = some o → H' b = some o
theorem But.refl (a : Addr) (H : Hp) : But a H H := fun _ _ => rfl
theorem But.trans {a : Addr} {H H1 H2 : Hp} (h : But a H H1) (k : But a H1 H2) : But a H H2 := fun b n => (k b n).trans (h b n)
theorem But.upd {a : Addr} {H H1 : Hp} {o : HO} (h : But a H H1) : But a H (upd H1 a o) := fun b n => (upd_ne n).trans (h b n)
theorem But.xa {a : Addr} {H H1 : Hp} (h : But a H H1) : XA a H H1 := fun b o n e => (h b n).trans e
theorem XA.refl (a : Addr) (H : Hp) : XA a H H := fun _ _ _ e => e
theorem XA.trans {a : Addr} {H H1 H2 : Hp} (h : XA a H H1) (k : XA a H1 H2) : XA a H H2 := fun b o n e => k b o n (h b o n e)
theorem XA.new {a p : Addr} {H H1 : Hp} {o : HO} (h : XA a H H1) (hp : H1 p = none) : XA a H (upd H1 p o) := fun b u n e => by
  rw [upd_ne (ne_of_none (h b u n e) hp)]; exact h b u n e
theorem XA.free {a p : Addr} {H H1 : Hp} (h : XA a H H1) (n : p ≠ a) (hp : H1 p = none) : H p = none := by
  cases q : H p with
  | none => rfl
  | some o => rw [h p o n q] at hp; cases hp

/-- the law's drawing state at a: the script's copy at sl, the place, the rest, the turns -/
def LS (H : Hp) (a sl : Addr) : Prop := ∃ (ns : List Int) (p r t : Int), H a = some (.lst [.ref sl, .int p, .int r, .int t]) ∧ H sl = some (.lst (ns.map V.int)) ∧ ns.length ≤ 63 ∧ 0 ≤ p ∧ 0 ≤ r ∧ sl ≠ a
theorem LS.at {H : Hp} {a sl : Addr} (h : LS H a sl) : ∃ xs, H a = some (.lst xs) := let ⟨_, _, _, _, e, _⟩ := h; ⟨_, e⟩
theorem LS.sl {H : Hp} {a sl : Addr} (h : LS H a sl) : ∃ xs, H sl = some (.lst xs) := let ⟨_, _, _, _, _, e, _⟩ := h; ⟨_, e⟩
theorem LS.keep {H H' : Hp} {a sl : Addr} (h : LS H a sl) (e1 : H' a = H a) (e2 : H' sl = H sl) : LS H' a sl := by
  obtain ⟨ns, p, r, t, h1, h2, h3⟩ := h
  exact ⟨ns, p, r, t, e1.trans h1, e2.trans h2, h3⟩

section
variable {P : Program} {w : World} {K : PySem.W.Frag} {mg : Str → Option Value} {base : Heap}

def spStart (K : PySem.W.Frag) : Sp := fun vs H Q _ => ∃ (s : Addr) (ns : List Int), vs = [.ref s] ∧ SqL K H s (ns.map V.int) ∧ ns.length ≤ 63 ∧
  ∀ a sl H', H a = none → H sl = none → Same H H' → LS H' a sl → Q (.ref a) H'
theorem sc_law_start : FnScope ["script"] ["script"] (defScope s_law_start) := ⟨rfl, rfl, rfl, by decide +kernel, rfl, by decide +kernel, by decide +kernel⟩
theorem ok_start {f : Addr} {fd : FuncData} (F : Fun K "_law_start" "_law_start" s_law_start f fd) (B : Bu mg) : FnOk P w K mg base CX0 1 f fd ["script"] (spStart K) := by
  have m_list := B.m_list
  refine F.ok sc_law_start (fun vs H Q E h => ?_) (fun cdv A outer s H vs Q E hr h => ?_)
  · obtain ⟨a, ns, rfl, _⟩ := h
    rfl
  obtain ⟨s, ns, rfl, hS, hl, q⟩ := h
  refine ⟨_, (pss_one (ps_ret (pe_lst (pa_cons (pe_callTy call_list_of (by rfl) m_list boot_list (pa_cons (pv 0) pa_nil)) (pa_cons pe_int (pa_cons pe_int (pa_cons pe_int pa_nil))))))), ?_⟩
  refine ⟨_, rfl, s, _, rfl, .inl hS, fun l nl => ⟨by show 4 ≤ sizeLine; decide, fun p np => ?_⟩⟩
  have s1 : Same H (upd H l (.lst (ns.map V.int))) := fun b o e => by rw [upd_ne (ne_of_none e nl)]; exact e
  have lp : l ≠ p := fun e => by rw [← e, upd_same] at np; cases np
  have hp : H p = none := by rw [upd_ne lp.symm] at np; exact np
  refine q p l _ hp nl (fun b o e => ?_) ⟨ns, 0, 0, 0, upd_same, ?_, hl, Int.le_refl _, Int.le_refl _, lp⟩
  · rw [upd_ne (ne_of_none e hp)]; exact s1 b o e
  · rw [upd_ne lp, upd_same]

def spDraw (K : PySem.W.Frag) : Sp := fun vs H Q _ => ∃ (a sl : Addr) (m : Int), vs = [.ref a, .int m] ∧ LS H a sl ∧ 0 < m ∧ m < 1073741824 ∧
  ∀ i H', 0 ≤ i → i < m → But a H H' → LS H' a sl → Q (.int i) H'
theorem sc_law_draw : FnScope ["state", "most", "found", "cell", "mixed"] ["state", "most"] (defScope s_law_draw) := ⟨rfl, rfl, rfl, by decide +kernel, rfl, by decide +kernel, by decide +kernel⟩
theorem ok_draw {f : Addr} {fd : FuncData} (F : Fun K "_law_draw" "_law_draw" s_law_draw f fd) (B : Bu mg) : FnOk P w K mg base CX0 1 f fd ["state", "most"] (spDraw K) := by
  have m_int := B.m_int
  have m_len := B.m_len
  have m_abs := B.m_abs
  refine F.ok sc_law_draw (fun vs H Q E h => ?_) (fun cdv A outer s H vs Q E hr h => ?_)
  · obtain ⟨a, sl, m, rfl, _⟩ := h
    rfl
  obtain ⟨a, sl, m, rfl, ⟨ns, p, r, t, hA, hN, h63, p0, r0, nsl⟩, m0, m1, q⟩ := h
  refine ⟨_, (pss_cons (ps_asg (pe_op op_add (pe_ix ix_list (pv 0) pe_int (fun _ _ => rfl)) pe_int) (pg_sub (pv 0) pe_int set_list))
    (pss_cons (ps_if (pt_cmpR op_gt (pe_ix ix_list (pv 0) pe_int (fun _ _ => rfl)) pe_int (nomark _)) (pss_cons (ps_set (i := 2) sc_law_draw.nd rfl (by first | exact Or.inl rfl | exact Or.inr rfl) (pe_op op_mod (pe_callTy call_int1 (by rfl) m_int boot_int (pa_cons (pe_ix ix_list (pv 0) pe_int (fun _ _ => rfl)) pa_nil)) (pv 1)))
    (pss_cons (ps_asg (pe_op op_fdiv (pe_ix ix_list (pv 0) pe_int (fun _ _ => rfl)) (pv 1)) (pg_sub (pv 0) pe_int set_list))
    (pss_one (ps_ret (pv 2))))) pss_nil)
    (pss_cons (ps_set (i := 3) sc_law_draw.nd rfl (by first | exact Or.inl rfl | exact Or.inr rfl) pe_int)
    (Evl.pss_cut (ps_if (pt_cmpR op_gt (pe_callB call_len_seq (by rfl) m_len PySem.boot_len (pa_cons (pe_ix ix_list (pv 0) pe_int (fun _ _ => rfl)) pa_nil)) pe_int (nomark _)) (pss_one (ps_set (i := 3) sc_law_draw.nd rfl (by first | exact Or.inl rfl | exact Or.inr rfl) (pe_callB (call_abs) (by rfl) m_abs boot_abs (pa_cons (pe_ix ix_list (pe_ix ix_list (pv 0) pe_int (fun _ _ => rfl)) (pe_op op_mod (pe_callTy call_int1 (by rfl) m_int boot_int (pa_cons (pe_ix ix_list (pv 0) pe_int (fun _ _ => rfl)) pa_nil)) (pe_callB call_len_seq (by rfl) m_len PySem.boot_len (pa_cons (pe_ix ix_list (pv 0) pe_int (fun _ _ => rfl)) pa_nil))) (fun _ _ => rfl)) pa_nil)))) pss_nil)
    (pss_cons (ps_asg (pe_op op_add (pe_ix ix_list (pv 0) pe_int (fun _ _ => rfl)) pe_int) (pg_sub (pv 0) pe_int set_list))
    (pss_cons (ps_if (pt_cmpR op_ge (pv 3) (pe_op op_pow pe_int pe_int) (nomark _)) (pss_cons (ps_asg (pe_op op_fdiv (pv 3) (pv 1)) (pg_sub (pv 0) pe_int set_list))
    (pss_one (ps_ret (pe_op op_mod (pe_callTy call_int1 (by rfl) m_int boot_int (pa_cons (pv 3) pa_nil)) (pv 1))))) pss_nil)
    (pss_cons (ps_set (i := 4) sc_law_draw.nd rfl (by first | exact Or.inl rfl | exact Or.inr rfl) (pe_op op_mod (pe_callTy call_int1 (by rfl) m_int boot_int (pa_cons (pe_op op_add (pe_op op_mul (pe_op op_add (pv 3) pe_int) pe_int) (pe_op op_mul (pe_ix ix_list (pv 0) pe_int (fun _ _ => rfl)) pe_int)) pa_nil)) pe_int))
    (pss_cons (ps_set (i := 4) sc_law_draw.nd rfl (by first | exact Or.inl rfl | exact Or.inr rfl) (pe_op op_mod (pe_callTy call_int1 (by rfl) m_int boot_int (pa_cons (pe_op op_add (pe_op op_add (pe_op op_mul (pv 4) pe_int) (pe_op op_fdiv (pv 3) pe_int)) (pe_ix ix_list (pv 0) pe_int (fun _ _ => rfl))) pa_nil)) pe_int))
    (pss_one (ps_ret (pe_op op_mod (pe_op op_fdiv (pv 4) pe_int) (pv 1)))))))))))), ?_⟩
  -- state[3] = state[3] + 1
  refine ⟨_, rfl, a, _, 3, .int t, rfl, rfl, SqL.of hA, rfl, t, 1, rfl, rfl, _, rfl, a, _, 3, 3, rfl, rfl, hA, rfl, ?_⟩
  have b1 : But a H (upd H a (.lst [.ref sl, .int p, .int r, .int (t + 1)])) := (But.refl a H).upd
  -- if state[2] > 0
  refine ⟨_, rfl, a, _, 2, .int r, rfl, rfl, SqL.of upd_same, rfl, r, 0, rfl, rfl, _, rfl, ?_⟩
  refine ite2 (fun c => ?_) (fun c => ?_)
  · have c' : 0 < r := of_decide_eq_true c
    refine ⟨_, rfl, a, _, 2, .int r, rfl, rfl, SqL.of upd_same, rfl, .inl ⟨r, rfl, _, rfl, r, m, rfl, rfl, m0, ?_⟩⟩
    refine ⟨_, rfl, a, _, 2, .int r, rfl, rfl, SqL.of upd_same, rfl, _, rfl, r, m, rfl, rfl, ⟨m0, m1⟩, _, rfl, a, _, 2, 2, rfl, rfl, upd_same, rfl, ?_⟩
    refine ⟨_, rfl, ?_⟩
    refine q (r % m) _ (Int.emod_nonneg _ (by omega)) (Int.emod_lt_of_pos _ m0) b1.upd ⟨ns, p, r / m, t + 1, upd_same, ?_, h63, p0, Int.ediv_nonneg r0 (by omega), nsl⟩
    rw [upd_ne nsl, upd_ne nsl]; exact hN
  -- cell = 0; the script's number
  have hsl : (upd H a (.lst [.ref sl, .int p, .int r, .int (t + 1)])) sl = some (.lst (ns.map V.int)) := (upd_ne nsl).trans hN
  refine ⟨fun σ' H' => H' = upd H a (.lst [.ref sl, .int p, .int r, .int (t + 1)]) ∧ ∃ cell : Int, 0 ≤ cell ∧ σ' = [some (.ref a), some (.int m), none, some (.int cell), none], ?_, ?_⟩
  · refine ⟨_, rfl, a, _, 0, .ref sl, rfl, rfl, SqL.of upd_same, rfl, sl, _, rfl, .inl (SqL.of hsl), _, 0, rfl, rfl, _, rfl, ?_⟩
    refine ite2 (fun c => ?_) (fun c => ⟨rfl, 0, Int.le_refl _, rfl⟩)
    have c' : (0 : Int) < ((ns.map V.int).length : Nat) := of_decide_eq_true c
    rw [List.length_map] at c'
    have hk : (p % ((ns.map V.int).length : Nat)) = ((p % ((ns.map V.int).length : Nat)).toNat : Nat) := (Int.toNat_of_nonneg (Int.emod_nonneg _ (by rw [List.length_map]; omega))).symm
    have hk2 : (p % ((ns.map V.int).length : Nat)).toNat < ns.length := by
      have := Int.emod_lt_of_pos p (b := ((ns.map V.int).length : Nat)) (by rw [List.length_map]; exact c')
      rw [List.length_map] at this ⊢
      omega
    have hat : atI (ns.map V.int) (p % ((ns.map V.int).length : Nat)) = some (.int ns[(p % ((ns.map V.int).length : Nat)).toNat]) := at_of hk (by rw [List.getElem?_map, List.getElem?_eq_getElem hk2]; rfl)
    refine ⟨_, rfl, a, _, 0, .ref sl, rfl, rfl, SqL.of upd_same, rfl, _, rfl, a, _, 1, .int p, rfl, rfl, SqL.of upd_same, rfl, .inl ⟨p, rfl, _, rfl, a, _, 0, .ref sl, rfl, rfl, SqL.of upd_same, rfl, sl, _, rfl, .inl (SqL.of hsl), p, _, rfl, rfl, by rw [List.length_map]; exact c', ?_⟩⟩
    refine ⟨sl, _, _, _, rfl, rfl, SqL.of hsl, hat, _, rfl, ?_⟩
    refine ⟨rfl, _, ?_, rfl⟩
    split <;> omega
  rintro σ' H' ⟨rfl, cell, c0, rfl⟩
  -- state[1] = state[1] + 1
  refine ⟨_, rfl, a, _, 1, .int p, rfl, rfl, SqL.of upd_same, rfl, p, 1, rfl, rfl, _, rfl, a, _, 1, 1, rfl, rfl, upd_same, rfl, ?_⟩
  have b2 : But a H (upd (upd H a (.lst [.ref sl, .int p, .int r, .int (t + 1)])) a (.lst [.ref sl, .int (p + 1), .int r, .int (t + 1)])) := b1.upd
  -- a great number is all that is drawn from
  refine ⟨_, rfl, 10, 18, rfl, rfl, ⟨by decide, by decide, by decide⟩, cell, _, rfl, rfl, _, rfl, ?_⟩
  refine ite2 (fun c => ?_) (fun c => ?_)
  · refine ⟨_, rfl, _, rfl, cell, m, rfl, rfl, ⟨m0, m1⟩, _, rfl, a, _, 2, 2, rfl, rfl, upd_same, rfl, ?_⟩
    refine ⟨_, rfl, .inl ⟨cell, rfl, _, rfl, cell, m, rfl, rfl, m0, ?_⟩⟩
    refine q _ _ (Int.emod_nonneg _ (by omega)) (Int.emod_lt_of_pos _ m0) b2.upd ⟨ns, p + 1, cell / m, t + 1, upd_same, ?_, h63, by omega, Int.ediv_nonneg c0 (by omega), nsl⟩
    rw [upd_ne nsl, upd_ne nsl, upd_ne nsl]; exact hN
  have fin : LS (upd (upd H a (.lst [.ref sl, .int p, .int r, .int (t + 1)])) a (.lst [.ref sl, .int (p + 1), .int r, .int (t + 1)])) a sl :=
    ⟨ns, p + 1, r, t + 1, upd_same, by rw [upd_ne nsl, upd_ne nsl]; exact hN, h63, by omega, r0, nsl⟩
  refine ⟨_, rfl, cell, 1, rfl, rfl, _, 48271, rfl, rfl, .inr ⟨by decide, by decide⟩, _, rfl, a, _, 3, .int (t + 1), rfl, rfl, SqL.of upd_same, rfl, _, 69621, rfl, rfl, .inr ⟨by decide, by decide⟩, _, _, rfl, rfl, .inl ⟨_, rfl, _, 2147483647, rfl, rfl, (by show (0 : Int) < 2147483647; decide), ?_⟩⟩
  refine ⟨_, rfl, _, 16807, rfl, rfl, .inr ⟨by decide, by decide⟩, _, rfl, _, 97, rfl, rfl, ⟨by decide, by decide⟩, _, _, rfl, rfl, _, rfl, a, _, 3, .int (t + 1), rfl, rfl, SqL.of upd_same, rfl, _, _, rfl, rfl, .inl ⟨_, rfl, _, 2147483629, rfl, rfl, (by show (0 : Int) < 2147483629; decide), ?_⟩⟩
  refine ⟨_, rfl, _, 11, rfl, rfl, ⟨by decide, by decide⟩, _, rfl, _, m, rfl, rfl, m0, ?_⟩
  exact q _ _ (Int.emod_nonneg _ (by omega)) (Int.emod_lt_of_pos _ m0) b2 fin
end
end Tie

namespace Tie
open PySem PySem.Spec PyProof.Rows L2
section
variable {P : Program} {w : World} {K : PySem.W.Frag} {mg : Str → Option Value} {base : Heap}

def spOne (K : PySem.W.Frag) : Sp := fun vs H Q _ => ∃ (a sl l : Addr) (xs : List V), vs = [.ref a, .ref l] ∧ LS H a sl ∧ l ≠ a ∧ SqL K H l xs ∧ 0 < xs.length ∧ xs.length < 1073741824 ∧
  ∀ (j : Nat) v H', xs[j]? = some v → But a H H' → LS H' a sl → Q v H'
theorem But.sql {a l : Addr} {H H' : Hp} {xs : List V} (h : But a H H') (n : l ≠ a) (q : SqL K H l xs) : SqL K H' l xs := by
  rcases q with (q | ⟨o, q⟩) | q
  · exact .inl (.inl ((h l n).trans q))
  · exact .inl (.inr ⟨o, (h l n).trans q⟩)
  · exact .inr q
theorem sc_law_one_of : FnScope ["state", "items"] ["state", "items"] (defScope s_law_one_of) := ⟨rfl, rfl, rfl, by decide +kernel, rfl, by decide +kernel, by decide +kernel⟩
theorem ok_one {f fD : Addr} {fd fdD : FuncData} (F : Fun K "_law_one_of" "_law_one_of" s_law_one_of f fd) (B : Bu mg) (GD : FnOk P w K mg base CX0 1 fD fdD ["state", "most"] (spDraw K)) (mD : mg "_law_draw" = some (.ref fD)) (kD : PySem.W.keepIn K (.ref fD) = true) (bD : Binds K fdD ["state", "most"] []) :
    FnOk P w K mg base CX0 2 f fd ["state", "items"] (spOne K) := by
  have m_len := B.m_len
  refine F.ok sc_law_one_of (fun vs H Q E h => ?_) (fun cdv A outer s H vs Q E hr1 h => ?_)
  · obtain ⟨a, sl, l, xs, rfl, _⟩ := h
    rfl
  obtain ⟨a, sl, l, xs, rfl, hL, nl, hS, l0, l1, q⟩ := h
  refine ⟨_, (pss_one (ps_ret (pe_ix ix_list (pv 1) (pe_call GD hr1 rfl mD kD bD .nil pass0 (pa_cons (pv 0) (pa_cons (pe_callB call_len_seq (by rfl) m_len PySem.boot_len (pa_cons (pv 1) pa_nil)) pa_nil))) (fun _ _ => rfl)))), ?_⟩
  refine ⟨_, rfl, _, rfl, _, rfl, l, xs, rfl, .inl hS, a, sl, _, rfl, hL, by omega, by omega, fun i H' i0 i1 hb hL' => ?_⟩
  have hi : i.toNat < xs.length := by omega
  refine ⟨l, xs, i, xs[i.toNat], rfl, rfl, hb.sql nl hS, at_of (Int.toNat_of_nonneg i0).symm (List.getElem?_eq_getElem hi), ?_⟩
  exact q i.toNat _ H' (List.getElem?_eq_getElem hi) hb hL'

theorem cutS_len (z : Str) (lo hi : Option Int) : (cutS z lo hi).length ≤ z.length := by
  show ((z.cps.toList.drop (HT.sIx z.length 0 lo)).take (HT.sIx z.length z.length hi - HT.sIx z.length 0 lo)).toArray.size ≤ z.cps.size
  rw [List.size_toArray, List.length_take, List.length_drop, Array.length_toList]
  omega
def spWords (K : PySem.W.Frag) : Sp := fun vs H Q _ => ∃ (a sl : Addr) (m : Int), vs = [.ref a, .int m] ∧ LS H a sl ∧ 0 ≤ m ∧ m ≤ 20 ∧
  ∀ p (ws : List Str) H', H p = none → XA a H H' → LS H' a sl → H' p = some (.lst (ws.map V.str)) → ws.length = m.toNat → (∀ x ∈ ws, x.length ≤ 4) → Q (.ref p) H'
theorem sc_law_words : FnScope ["state", "many", "letters", "start", "step", "shared", "k"] ["state", "many"] (defScope s_law_words) := ⟨rfl, rfl, rfl, by decide +kernel, rfl, by decide +kernel, by decide +kernel⟩
abbrev abc : Str := "abcdefghijklmnopqrstuvwxyz"
theorem abc_at (z : Int) : ∃ c, atI abc.cps.toList (z % 26) = some c := by
  have h0 : 0 ≤ z % 26 := Int.emod_nonneg _ (by decide)
  have h1 : z % 26 < 26 := Int.emod_lt_of_pos _ (by decide)
  have hl : abc.cps.toList.length = 26 := by decide +kernel
  have hk : (z % 26).toNat < abc.cps.toList.length := by omega
  exact ⟨_, by
    rw [← Int.toNat_of_nonneg h0]
    exact atI_nat (List.getElem?_eq_getElem hk)⟩
theorem ok_words {f fD : Addr} {fd fdD : FuncData} (F : Fun K "_law_words" "_law_words" s_law_words f fd) (B : Bu mg) (GD : FnOk P w K mg base CX0 1 fD fdD ["state", "most"] (spDraw K)) (mD : mg "_law_draw" = some (.ref fD)) (kD : PySem.W.keepIn K (.ref fD) = true) (bD : Binds K fdD ["state", "most"] []) :
    FnOk P w K mg base CX0 2 f fd ["state", "many"] (spWords K) := by
  have m_range := B.m_range
  have m_int := B.m_int
  refine F.ok sc_law_words (fun vs H Q E h => ?_) (fun cdv A outer s H vs Q E hr1 h => ?_)
  · obtain ⟨a, sl, m, rfl, _⟩ := h
    rfl
  obtain ⟨a, sl, m, rfl, hL, m0, m1, q⟩ := h
  refine ⟨_, (pss_cons (ps_set (i := 2) sc_law_words.nd rfl (Or.inr rfl) pe_str)
    (pss_cons (ps_set (i := 3) sc_law_words.nd rfl (Or.inr rfl) (pe_call GD hr1 rfl mD kD bD .nil pass0 (pa_cons (pv 0) (pa_cons pe_int pa_nil))))
    (pss_cons (ps_set (i := 4) sc_law_words.nd rfl (Or.inr rfl) (pe_op op_add pe_int (pe_op op_mul pe_int (pe_call GD hr1 rfl mD kD bD .nil pass0 (pa_cons (pv 0) (pa_cons pe_int pa_nil))))))
    (pss_cons (ps_set (i := 5) sc_law_words.nd rfl (Or.inr rfl) (pe_slice sl_str pe_str po_none (po_some (pe_call GD hr1 rfl mD kD bD .nil pass0 (pa_cons (pv 0) (pa_cons pe_int pa_nil))))))
    (pss_cons (ps_if (pt_cmpR op_eq (pe_call GD hr1 rfl mD kD bD .nil pass0 (pa_cons (pv 0) (pa_cons pe_int pa_nil))) pe_int (nomark _)) (pss_one (ps_ret (pe_lc (own := [("k", 6)]) (g := gName 6) (tt := tYes) rfl sc_law_words.nd (pi_range1 rfl m_range (pa_cons (pv 1) pa_nil)) (blkOk_by (sc := defScope s_law_words) (N := ["state", "many", "letters", "start", "step", "shared", "k"]) (own := [("k", 6)]) (by decide +kernel))
      (fun _ _ _ _ _ => (pg_name (i := 6) sc_law_words.nd rfl (Or.inl rfl))) (fun _ _ _ _ _ => pts_nil) (fun _ _ _ _ _ => (pe_op op_add_str (pv 5) (pe_ix ix_str (pv 2) (pe_op op_mod (pe_callTy call_int1 (by rfl) m_int boot_int (pa_cons (pe_op op_add (pv 3) (pe_op op_mul (pv 6) (pv 4))) pa_nil)) pe_int) (fun _ _ => rfl))))))) pss_nil)
    (pss_one (ps_ret (pe_lc (own := [("k", 6)]) (g := gName 6) (tt := tYes) rfl sc_law_words.nd (pi_range1 rfl m_range (pa_cons (pv 1) pa_nil)) (blkOk_by (sc := defScope s_law_words) (N := ["state", "many", "letters", "start", "step", "shared", "k"]) (own := [("k", 6)]) (by decide +kernel))
      (fun _ _ _ _ _ => (pg_name (i := 6) sc_law_words.nd rfl (Or.inl rfl))) (fun _ _ _ _ _ => pts_nil) (fun _ _ _ _ _ => (pe_op op_add_str (pe_ix ix_str (pv 2) (pe_op op_mod (pe_callTy call_int1 (by rfl) m_int boot_int (pa_cons (pe_op op_add (pv 3) (pe_op op_mul (pv 6) (pv 4))) pa_nil)) pe_int) (fun _ _ => rfl)) (pv 5))))))))))), ?_⟩
  refine ⟨_, rfl, a, sl, 26, rfl, hL, by decide, by decide, fun st H1 s0 s1 b1 L1 => ?_⟩
  refine ⟨_, rfl, a, sl, 6, rfl, L1, by decide, by decide, fun sp H2 p0 p1 b2 L2 => ⟨_, _, rfl, rfl, .inl ⟨by decide, by decide⟩, 1, _, rfl, rfl, ?_⟩⟩
  refine ⟨_, rfl, a, sl, 4, rfl, L2, by decide, by decide, fun sh H3 h0 h1 b3 L3 => ⟨_, rfl, _, rfl, (by show (3 : Nat) ≤ sizeLine; decide), ?_⟩⟩
  refine ⟨_, rfl, a, sl, 2, rfl, L3, by decide, by decide, fun co H4 c0 c1 b4 L4 => ⟨rfl, _, rfl, ?_⟩⟩
  have zl : (cutS "qxz" none (some sh)).length ≤ 3 := cutS_len _ _ _
  have b5 : But a H H4 := b1.trans (b2.trans (b3.trans b4))
  have hm : m.toNat ≤ 20 := by omega
  have fin : ∀ D, H4 D = none → ∀ H5, But D H4 H5 → (∃ ws : List Str, ws.length = m.toNat ∧ (∀ x ∈ ws, x.length ≤ 4) ∧ H5 D = some (.lst (ws.map V.str))) → Q (.ref D) H5 := fun D hD H5 x5 ⟨ws, e1, e2, e3⟩ => by
    have nD : D ≠ a := (ne_of_none L4.at.choose_spec hD).symm
    have nS : D ≠ sl := (ne_of_none L4.sl.choose_spec hD).symm
    exact q D ws H5 (b5.xa.free nD hD) (fun b o nb e => (x5 b (ne_of_none (b5.xa b o nb e) hD)).trans (b5.xa b o nb e)) (L4.keep (x5 a nD.symm) (x5 sl nS.symm)) e3 e1 e2
  have turn : ∀ D (i : Nat) H5 (z : Str), i < m.toNat → (∃ ws : List Str, ws.length = i ∧ (∀ x ∈ ws, x.length ≤ 4) ∧ H5 D = some (.lst (ws.map V.str))) → But D H4 H5 → z.length ≤ 4 →
      ∃ acc, H5 D = some (.lst acc) ∧ acc.length < sizeLine ∧ But D H4 (upd H5 D (.lst (acc ++ [V.str z]))) ∧ ∃ ws : List Str, ws.length = i + 1 ∧ (∀ x ∈ ws, x.length ≤ 4) ∧ (upd H5 D (.lst (acc ++ [V.str z]))) D = some (.lst (ws.map V.str)) := fun D i H5 z hi ⟨ws, e1, e2, e3⟩ x5 hz => by
    refine ⟨_, e3, small1000 (by rw [List.length_map]; omega), x5.upd, ws ++ [z], by rw [List.length_append, e1]; rfl, fun x hx => ?_, by rw [upd_same, List.map_append]; rfl⟩
    rcases List.mem_append.mp hx with h | h
    · exact e2 x h
    · rw [List.mem_singleton.mp h]; exact hz
  have len1 : ∀ (x : Str) (c : Nat), x.length ≤ 3 → (x ++ (⟨#[c]⟩ : Str)).length ≤ 4 := fun x c hx => by
    show (x.cps ++ #[c]).size ≤ 4
    rw [Array.size_append]
    have : x.cps.size ≤ 3 := hx
    show x.cps.size + 1 ≤ 4
    omega
  have len2 : ∀ (x : Str) (c : Nat), x.length ≤ 3 → ((⟨#[c]⟩ : Str) ++ x).length ≤ 4 := fun x c hx => by
    show (#[c] ++ x.cps).size ≤ 4
    rw [Array.size_append]
    have : x.cps.size ≤ 3 := hx
    show 1 + x.cps.size ≤ 4
    omega
  refine ite2 (fun c => ?_) (fun c => ?_)
  · refine ⟨_, rfl, m, rfl, by omega, by omega, fun D hD => lc_range (lo := 0) (n := m.toNat) (fun i H' => But D H4 H' ∧ ∃ ws : List Str, ws.length = i ∧ (∀ x ∈ ws, x.length ≤ 4) ∧ H' D = some (.lst (ws.map V.str)))
      ⟨(But.refl D H4).upd, [], rfl, (by intro x h; cases h), upd_same⟩ (fun i H' hi hP => ⟨rfl, ?_⟩) (fun H' hP => fin D hD H' hP.1 hP.2)⟩
    refine iteT (B := (But D H4 H' ∧ ∃ ws : List Str, ws.length = i + 1 ∧ (∀ x ∈ ws, x.length ≤ 4) ∧ H' D = some (.lst (ws.map V.str)))) ?_
    obtain ⟨ch, hch⟩ := abc_at (st + (0 + (i : Int)) * (1 + 2 * sp))
    refine ⟨_, rfl, _, rfl, _, rfl, _, rfl, _, rfl, _, _, rfl, rfl, .inr ⟨by omega, by omega⟩, _, _, rfl, rfl, .inl ⟨_, rfl, _, _, rfl, rfl, by show (0 : Int) < 26; decide, abc, _, ch, rfl, rfl, by show (26 : Nat) ≤ sizeLine; decide, hch, _, _, rfl, rfl, ?_, ?_⟩⟩
    · exact Nat.le_of_lt (small1000 (by show (cutS "qxz" none (some sh)).length + 1 ≤ 1000; omega))
    · obtain ⟨acc, t1, t2, t3⟩ := turn D i H' (cutS "qxz" none (some sh) ++ ⟨#[ch]⟩) hi hP.2 hP.1 (len1 _ _ zl)
      exact ⟨acc, t1, t2, t3.1, t3.2⟩
  · refine ⟨_, rfl, m, rfl, by omega, by omega, fun D hD => lc_range (lo := 0) (n := m.toNat) (fun i H' => But D H4 H' ∧ ∃ ws : List Str, ws.length = i ∧ (∀ x ∈ ws, x.length ≤ 4) ∧ H' D = some (.lst (ws.map V.str)))
      ⟨(But.refl D H4).upd, [], rfl, (by intro x h; cases h), upd_same⟩ (fun i H' hi hP => ⟨rfl, ?_⟩) (fun H' hP => fin D hD H' hP.1 hP.2)⟩
    refine iteT (B := (But D H4 H' ∧ ∃ ws : List Str, ws.length = i + 1 ∧ (∀ x ∈ ws, x.length ≤ 4) ∧ H' D = some (.lst (ws.map V.str)))) ?_
    obtain ⟨ch, hch⟩ := abc_at (st + (0 + (i : Int)) * (1 + 2 * sp))
    refine ⟨_, rfl, _, rfl, _, rfl, _, rfl, _, _, rfl, rfl, .inr ⟨by omega, by omega⟩, _, _, rfl, rfl, .inl ⟨_, rfl, _, _, rfl, rfl, by show (0 : Int) < 26; decide, abc, _, ch, rfl, rfl, by show (26 : Nat) ≤ sizeLine; decide, hch, _, rfl, _, _, rfl, rfl, ?_, ?_⟩⟩
    · exact Nat.le_of_lt (small1000 (by show 1 + (cutS "qxz" none (some sh)).length ≤ 1000; omega))
    · obtain ⟨acc, t1, t2, t3⟩ := turn D i H' (⟨#[ch]⟩ ++ cutS "qxz" none (some sh)) hi hP.2 hP.1 (len2 _ _ zl)
      exact ⟨acc, t1, t2, t3.1, t3.2⟩
end
end Tie
/-! The mathematics: two ways to list the ascending tuples of some names. -/
namespace Tie
open PySem

def encR (r : List Str) : PyData := .tuple (r.map PyData.str)
def okR (x : Str) (r : List Str) : Bool := match r.getLast? with
  | none => true
  | some l => !decide (x.cps.toList < l.cps.toList)
def longer (names : List Str) (rows : List (List Str)) : List (List Str) := rows.flatMap fun r => (names.filter (okR · r)).map fun x => r ++ [x]
def leR (a b : List Str) : Bool := PySem.W.dataLe false id (encR a) (encR b)
def sortR (rows : List (List Str)) : List (List Str) := rows.mergeSort leR

theorem toks_inj : ∀ a b : List Str, PySem.W.keyToksAll (a.map PyData.str) = PySem.W.keyToksAll (b.map PyData.str) → a = b
  | [], [], _ => rfl
  | [], y :: b, h => by simp [PySem.W.keyToksAll] at h
  | x :: a, [], h => by simp [PySem.W.keyToksAll] at h
  | x :: a, y :: b, h => by
    rw [List.map_cons, List.map_cons, PySem.W.toks_all_cons, PySem.W.toks_all_cons] at h
    have h1 := (List.cons.inj h).2
    simp only [PySem.W.keyToks] at h1
    have h2 : x.cps.toList = y.cps.toList ∧ PySem.W.keyToksAll (a.map PyData.str) = PySem.W.keyToksAll (b.map PyData.str) := by simpa using h1
    rw [PySem.W.str_of_cps h2.1, toks_inj a b h2.2]
theorem encR_toks (a : List Str) : PySem.W.keyToks (encR a) = PySem.W.keyToksAll (a.map PyData.str) := by
  unfold encR
  simp only [PySem.W.keyToks]
theorem leR_anti (a b : List Str) (h1 : leR a b = true) (h2 : leR b a = true) : a = b := by
  have g1 : (!(PyProof.Rows.listOrd PyProof.Rows.itemOrd).blt (PySem.W.keyToks (encR b)) (PySem.W.keyToks (encR a))) = true := h1
  have g2 : (!(PyProof.Rows.listOrd PyProof.Rows.itemOrd).blt (PySem.W.keyToks (encR a)) (PySem.W.keyToks (encR b))) = true := h2
  rw [Bool.not_eq_true'] at g1 g2
  have e := (PyProof.Rows.listOrd PyProof.Rows.itemOrd).total _ _ g2 g1
  rw [encR_toks, encR_toks] at e
  exact toks_inj a b e
theorem leR_total : PySem.W.TotalLe leR := by
  have t := PySem.W.sortLe_total (PyProof.Rows.listOrd PyProof.Rows.itemOrd) false (fun a : List Str => PySem.W.keyToks (encR a))
  exact ⟨fun a b c h1 h2 => t.trans a b c h1 h2, fun a b => t.total a b⟩
theorem sortR_perm (rows : List (List Str)) : (sortR rows).Perm rows := List.mergeSort_perm rows leR
theorem sortR_of_perm {a b : List (List Str)} (h : a.Perm b) : sortR a = sortR b :=
  List.Perm.eq_of_pairwise (le := fun x y => leR x y = true) (fun x y _ _ h1 h2 => leR_anti x y h1 h2) (PySem.W.sort_pairwise leR_total a) (PySem.W.sort_pairwise leR_total b) ((sortR_perm a).trans (h.trans (sortR_perm b).symm))
theorem sortR_map (rows : List (List Str)) : (rows.map encR).mergeSort (PySem.W.dataLe false id) = (sortR rows).map encR :=
  (PySem.W.sort_maps (r := leR) (s := PySem.W.dataLe false id) encR fun _ _ _ _ => rfl).symm
theorem longer_perm {names : List Str} {a b : List (List Str)} (h : a.Perm b) : (longer names a).Perm (longer names b) := h.flatMap_right _

/-- the program's: rows as they come, sorted where they are given out; the law's: sorted each time -/
def lastP (names : List Str) : Nat → List (List Str)
  | 0 => [[]]
  | k + 1 => longer names (lastP names k)
def rowsL (names : List Str) : Nat → List (List Str)
  | 0 => [[]]
  | k + 1 => sortR (longer names (rowsL names k))
def foundP (names : List Str) : Nat → List (List Str)
  | 0 => [[]]
  | k + 1 => foundP names k ++ sortR (lastP names (k + 1))
def dueL (names : List Str) : Nat → List (List Str)
  | 0 => [[]]
  | k + 1 => dueL names k ++ rowsL names (k + 1)
theorem rows_perm (names : List Str) : ∀ k, (rowsL names k).Perm (lastP names k)
  | 0 => .refl _
  | k + 1 => (sortR_perm _).trans (longer_perm (rows_perm names k))
theorem rows_eq (names : List Str) (k : Nat) : rowsL names (k + 1) = sortR (lastP names (k + 1)) := sortR_of_perm (longer_perm (rows_perm names k))
theorem due_eq (names : List Str) : ∀ k, dueL names k = foundP names k
  | 0 => rfl
  | k + 1 => by
    show dueL names k ++ rowsL names (k + 1) = foundP names k ++ sortR (lastP names (k + 1))
    rw [due_eq names k, rows_eq]

/-! sizes -/
theorem longer_len {names : List Str} {n : Nat} (hn : names.length ≤ n) : ∀ rows : List (List Str), (longer names rows).length ≤ rows.length * n
  | [] => by simp [longer]
  | r :: rows => by
    have ih := longer_len hn rows
    have e : (longer names (r :: rows)).length = (names.filter (okR · r)).length + (longer names rows).length := by
      unfold longer
      rw [List.flatMap_cons, List.length_append, List.length_map]
    have h1 := List.length_filter_le (okR · r) names
    rw [e, List.length_cons, Nat.add_mul, Nat.one_mul]
    omega
theorem lastP_len {names : List Str} {n : Nat} (hn : names.length ≤ n) : ∀ k, (lastP names k).length ≤ n ^ k
  | 0 => by simp [lastP]
  | k + 1 => by
    have ih := lastP_len hn k
    have h := longer_len hn (lastP names k)
    show (longer names (lastP names k)).length ≤ n ^ (k + 1)
    rw [Nat.pow_succ]
    exact Nat.le_trans h (Nat.mul_le_mul_right n ih)
theorem sortR_len (rows : List (List Str)) : (sortR rows).length = rows.length := (sortR_perm rows).length_eq
theorem lastP_mem {names : List Str} : ∀ k, ∀ r ∈ lastP names k, r.length = k
  | 0, r, h => by
    rw [List.mem_singleton.mp h]; rfl
  | k + 1, r, h => by
    obtain ⟨q, hq, hr⟩ := List.mem_flatMap.mp h
    obtain ⟨x, _, rfl⟩ := List.mem_map.mp hr
    rw [List.length_append, lastP_mem k q hq]; rfl
theorem rowsL_mem {names : List Str} (k : Nat) (r) (h : r ∈ rowsL names k) : r.length = k := lastP_mem k r ((rows_perm names k).mem_iff.mp h)
theorem foundP_len {names : List Str} (hn : names.length ≤ 5) : ∀ k, k ≤ 4 → (foundP names k).length ≤ 700 * k + 1
  | 0, _ => by simp [foundP]
  | k + 1, hk => by
    have ih := foundP_len hn k (by omega)
    have h := lastP_len hn (k + 1)
    have h2 : (5 : Nat) ^ (k + 1) ≤ 5 ^ 4 := Nat.pow_le_pow_right (by decide) (by omega)
    show (foundP names k ++ sortR (lastP names (k + 1))).length ≤ _
    rw [List.length_append, sortR_len]
    omega
theorem foundP_mem {names : List Str} : ∀ k, ∀ r ∈ foundP names k, r.length ≤ k
  | 0, r, h => by rw [List.mem_singleton.mp h]; exact Nat.zero_le _
  | k + 1, r, h => by
    rcases List.mem_append.mp h with h | h
    · exact Nat.le_succ_of_le (foundP_mem k r h)
    · exact Nat.le_of_eq (lastP_mem (k + 1) r ((sortR_perm _).mem_iff.mp h))
end Tie
namespace Tie
open PySem PySem.Spec PyProof.Rows L2

/-- the built-in type of a datum -/
def tyD : PyData → String
  | .none => "NoneType"
  | .bool _ => "bool"
  | .int _ => "int"
  | .str _ => "str"
  | .list _ => "list"
  | .tuple _ => "tuple"
  | .dict _ => "dict"
theorem tyx_tup {K : PySem.W.Frag} {H : Hp} {a : Addr} {xs : List V} (h : SqT K H a xs) : TyX K H (.ref a) (.type "tuple") := by
  rcases h with (h | ⟨o, h⟩) | ⟨o, its, n, h, c, _⟩
  · exact .base (.tup h)
  · exact .fTuple h
  · exact .kTuple h c
theorem tyx_lst {K : PySem.W.Frag} {H : Hp} {a : Addr} {xs : List V} (h : SqL K H a xs) : TyX K H (.ref a) (.type "list") := by
  rcases h with (h | ⟨o, h⟩) | ⟨o, its, n, h, c, _⟩
  · exact .base (.lst h)
  · exact .base (.frz h)
  · exact .kList h c
theorem tyx_of {K : PySem.W.Frag} {H : Hp} {v : V} {d : PyData} (h : Dp K H v d) : TyX K H v (.type (tyD d)) := by
  cases h with
  | non => exact .base .non
  | bl b => exact .base (.bl b)
  | int i => exact .base (.int i)
  | str x => exact .base (.str x)
  | lst h _ => exact tyx_lst h
  | tup h _ => exact tyx_tup h
/-- data of ints, texts and tuples -/
inductive Pl : PyData → Prop
  | int (i : Int) : Pl (.int i)
  | str (x : Str) : Pl (.str x)
  | tup {ds : List PyData} (hl : ds.length ≤ 1000000) (h : ∀ d ∈ ds, Pl d) : Pl (.tuple ds)
theorem dpAll_len {K : PySem.W.Frag} {H : Hp} : ∀ {xs : List V} {ds : List PyData}, DpAll K H xs ds → xs.length = ds.length
  | _, _, .nil => rfl
  | _, _, .cons _ t => congrArg (· + 1) (dpAll_len t)
theorem dpAll_get {K : PySem.W.Frag} {H : Hp} : ∀ {xs : List V} {ds : List PyData} {i : Nat} {d : PyData}, DpAll K H xs ds → ds[i]? = some d → ∃ v, xs[i]? = some v ∧ Dp K H v d
  | _, _, 0, _, .cons h t, e => by
    rw [List.getElem?_cons_zero] at e; cases e; exact ⟨_, rfl, h⟩
  | _, _, i + 1, _, .cons h t, e => by
    rw [List.getElem?_cons_succ] at e
    obtain ⟨v, h1, h2⟩ := dpAll_get t e
    exact ⟨v, by rw [List.getElem?_cons_succ]; exact h1, h2⟩
theorem same_t {K : PySem.W.Frag} {H H' : Hp} {a : Addr} {xs : List V} (e : Same H H') (h : SqT K H a xs) : SqT K H' a xs := Evl.ex_t e h
mutual
theorem dp_same {K : PySem.W.Frag} {H H' : Hp} (e : Same H H') : ∀ {v : V} {d : PyData}, Dp K H v d → Dp K H' v d
  | _, _, .non => .non
  | _, _, .bl b => .bl b
  | _, _, .int i => .int i
  | _, _, .str x => .str x
  | _, _, .lst h t => .lst (e.seq h) (dpAll_same e t)
  | _, _, .tup h t => .tup (same_t e h) (dpAll_same e t)
theorem dpAll_same {K : PySem.W.Frag} {H H' : Hp} (e : Same H H') : ∀ {vs : List V} {ds : List PyData}, DpAll K H vs ds → DpAll K H' vs ds
  | _, _, .nil => .nil
  | _, _, .cons h t => .cons (dp_same e h) (dpAll_same e t)
end
theorem depth_mem : ∀ {ds : List PyData} {d : PyData}, d ∈ ds → d.depth ≤ PyData.depthAll ds
  | [], _, h => by cases h
  | x :: xs, d, h => by
    unfold PyData.depthAll
    rcases List.mem_cons.mp h with rfl | h
    · exact Nat.le_max_left _ _
    · exact Nat.le_trans (depth_mem h) (Nat.le_max_right _ _)
section
variable {P : Program} {w : World} {K : PySem.W.Frag} {mg : Str → Option Value} {base : Heap}
def spIsInt (K : PySem.W.Frag) : Sp := fun vs H Q _ => ∃ i : Int, vs = [.int i] ∧ Q (.bl true) H
theorem sc_law_is_int : FnScope ["x"] ["x"] (defScope s_law_is_int) := ⟨rfl, rfl, rfl, by decide +kernel, rfl, by decide +kernel, by decide +kernel⟩
theorem ok_is_int {f : Addr} {fd : FuncData} (F : Fun K "_law_is_int" "_law_is_int" s_law_is_int f fd) (B : Bu mg) : FnOk P w K mg base CX0 1 f fd ["x"] (spIsInt K) := by
  have m_int := B.m_int
  have m_bool := B.m_bool
  have m_isinstance := B.m_isinstance
  refine F.ok sc_law_is_int (fun vs H Q E h => ?_) (fun cdv A outer s H vs Q E hr1 h => ?_)
  · obtain ⟨i, rfl, _⟩ := h
    rfl
  obtain ⟨i, rfl, q⟩ := h
  refine ⟨_, (pss_one (ps_ret (pe_and (pe_callB call_isi (by rfl) m_isinstance boot_isinstance (pa_cons (pv 0) (pa_cons (pe_bltn (v := .ty "int") (by rfl) m_int boot_int rfl) pa_nil))) (pe_one (pe_not (pe_callB call_isi (by rfl) m_isinstance boot_isinstance (pa_cons (pv 0) (pa_cons (pe_bltn (v := .ty "bool") (by rfl) m_bool boot_bool rfl) pa_nil)))))))), ?_⟩
  refine ⟨_, rfl, _, _, _, _, true, rfl, .ty _, .base (.int i), kit_ty (by decide +kernel), true, rfl, iteT ?_⟩
  exact ⟨_, rfl, _, _, _, _, false, rfl, .ty _, .base (.int i), kit_ty (by decide +kernel), false, rfl, q⟩

def spSame (K : PySem.W.Frag) (n : Nat) : Sp := fun vs H Q _ => ∃ (x y : V) (d : PyData), vs = [x, y] ∧ Dp K H x d ∧ Dp K H y d ∧ Pl d ∧ d.depth < n ∧ ∀ H', Same H H' → Q (.bl true) H'
theorem sc_law_same : FnScope ["x", "y", "k"] ["x", "y"] (defScope s_law_same) := ⟨rfl, rfl, rfl, by decide +kernel, rfl, by decide +kernel, by decide +kernel⟩
theorem same0 {f : Addr} {fd : FuncData} : FnOk P w K mg base CX0 1 f fd ["x", "y"] (spSame K 0) := by
  have no : ∀ vs H Q E, ¬ spSame K 0 vs H Q E := fun vs H Q E h => by
    obtain ⟨x, y, d, _, _, _, _, h, _⟩ := h
    omega
  exact ⟨fun vs H Q E h => absurd h (no vs H Q E), fun A outer s H args us vs Q E _ _ _ _ h => absurd h (no vs H Q E)⟩
theorem ok_same {f fI : Addr} {fd fdI : FuncData} {n : Nat} (F : Fun K "_law_same" "_law_same" s_law_same f fd) (B : Bu mg) (GI : FnOk P w K mg base CX0 1 fI fdI ["x"] (spIsInt K)) (mI : mg "_law_is_int" = some (.ref fI)) (kI : PySem.W.keepIn K (.ref fI) = true) (bI : Binds K fdI ["x"] [])
    (GE : FnOk P w K mg base CX0 (n + 1) f fd ["x", "y"] (spSame K n)) (mE : mg "_law_same" = some (.ref f)) (bE : Binds K fd ["x", "y"] []) :
    FnOk P w K mg base CX0 (n + 2) f fd ["x", "y"] (spSame K (n + 1)) := by
  have m_int := B.m_int
  have m_str := B.m_str
  have m_len := B.m_len
  have m_tuple := B.m_tuple
  have m_all := B.m_all
  have m_range := B.m_range
  have m_isinstance := B.m_isinstance
  have kE := F.kp
  refine F.ok sc_law_same (fun vs H Q E h => ?_) (fun cdv A outer s H vs Q E hrE h => ?_)
  · obtain ⟨x, y, d, rfl, _⟩ := h
    rfl
  obtain ⟨x, y, d, rfl, hx, hy, hp, hn, q⟩ := h
  have hr1 := hrE.mono (show 1 ≤ n + 1 by omega)
  refine ⟨_, (pss_cons (ps_if (pt_val (pe_callB call_isi (by rfl) m_isinstance boot_isinstance (pa_cons (pv 1) (pa_cons (pe_bltn (v := .ty "tuple") (by rfl) m_tuple boot_tuple rfl) pa_nil)))) (pss_cons (ps_if (PW.pt (pw_or (pt_not (pt_val (pe_callB call_isi (by rfl) m_isinstance boot_isinstance (pa_cons (pv 0) (pa_cons (pe_bltn (v := .ty "tuple") (by rfl) m_tuple boot_tuple rfl) pa_nil))))) (pw_or1 (pt_cmpR op_ne (pe_callB cl_len_seq (by rfl) m_len PySem.boot_len (pa_cons (pv 0) pa_nil)) (pe_callB cl_len_seq (by rfl) m_len PySem.boot_len (pa_cons (pv 1) pa_nil)) (nomark _))))) (pss_one (ps_ret pe_bl)) pss_nil)
    (pss_one (ps_ret (pe_callB (cr_all rfl) (by rfl) m_all boot_all (pa_cons (pe_lc (own := [("k", 2)]) (g := gName 2) (tt := tYes) rfl sc_law_same.nd (pi_range1 rfl m_range (pa_cons (pe_callB cl_len_seq (by rfl) m_len PySem.boot_len (pa_cons (pv 1) pa_nil)) pa_nil)) (blkOk_by (sc := defScope s_law_same) (N := ["x", "y", "k"]) (own := [("k", 2)]) (by decide +kernel))
      (fun _ _ _ _ _ => (pg_name (i := 2) sc_law_same.nd rfl (Or.inl rfl))) (fun _ _ _ _ _ => pts_nil) (fun _ _ _ _ _ => (pe_call GE hrE rfl mE kE bE .nil pass0 (pa_cons (pe_ix (show IxR _ (rIxT K) from ix_tup) (pv 0) (pv 2) (fun _ _ => rfl)) (pa_cons (pe_ix (show IxR _ (rIxT K) from ix_tup) (pv 1) (pv 2) (fun _ _ => rfl)) pa_nil))))) pa_nil))))) pss_nil)
    (pss_cons (ps_if (pt_val (pe_callB call_isi (by rfl) m_isinstance boot_isinstance (pa_cons (pv 1) (pa_cons (pe_bltn (v := .ty "str") (by rfl) m_str boot_str rfl) pa_nil)))) (pss_one (ps_ret (pe_and (pe_callB call_isi (by rfl) m_isinstance boot_isinstance (pa_cons (pv 0) (pa_cons (pe_bltn (v := .ty "str") (by rfl) m_str boot_str rfl) pa_nil))) (pe_one (pe_cmpR op_eq (pv 0) (pv 1) (nomark _)))))) pss_nil)
    (pss_one (ps_ret (pe_and (pe_call GI hr1 rfl mI kI bI .nil pass0 (pa_cons (pv 0) pa_nil)) (pe_one (pe_cmpR op_eq (pv 0) (pv 1) (nomark _)))))))), ?_⟩
  cases hp with
  | tup hlen hds =>
    rename_i ds
    cases hx with | tup sx ax =>
    cases hy with | tup sy ay =>
    rename_i a xs b ys
    have lx := dpAll_len ax
    have ly := dpAll_len ay
    have hdep : PyData.depthAll ds < n := by
      have : (PyData.tuple ds).depth = PyData.depthAll ds + 1 := by rw [PyData.depth]
      omega
    refine ⟨_, rfl, _, _, _, _, true, rfl, .ty _, tyx_tup sy, kit_ty (by decide +kernel), true, rfl, iteT ?_⟩
    refine ⟨_, rfl, _, _, _, _, true, rfl, .ty _, tyx_tup sx, kit_ty (by decide +kernel), true, rfl, ?_⟩
    refine ⟨_, rfl, a, xs, rfl, .inr sx, _, rfl, b, ys, rfl, .inr sy, rfl, _, rfl, ?_⟩
    rw [decide_eq_true (show V.int (xs.length : Int) = V.int (ys.length : Int) by rw [lx, ly])]
    refine iteF ?_
    refine ⟨_, rfl, b, ys, rfl, .inr sy, _, rfl, ?_⟩
    have rep : ∀ i, (List.replicate i true).map V.bl ++ [V.bl true] = (List.replicate (i + 1) true).map V.bl := fun i => by
      rw [List.replicate_succ', List.map_append]; rfl
    refine ⟨by omega, by omega, fun D hD => lc_range (lo := 0) (n := ((ys.length : Nat) : Int).toNat) (fun i H' => Same H H' ∧ H' D = some (.lst ((List.replicate i true).map V.bl)))
      ⟨Evl.Ex.new hD, upd_same⟩ (fun i H' hi hP => ⟨rfl, ?_⟩) (fun H' hP => ?_)⟩
    · have hi' : i < ds.length := by omega
      obtain ⟨u, hu, du⟩ := dpAll_get ax (List.getElem?_eq_getElem hi')
      obtain ⟨v, hv, dv⟩ := dpAll_get ay (List.getElem?_eq_getElem hi')
      have hm : ds[i] ∈ ds := List.getElem_mem hi'
      have ei : (0 : Int) + (i : Int) = (i : Int) := Int.zero_add _
      refine iteT (B := Same H H' ∧ H' D = some (.lst ((List.replicate (i + 1) true).map V.bl))) ?_
      refine ⟨_, rfl, _, rfl, a, xs, _, u, rfl, rfl, same_t hP.1 sx, at_of ei hu, _, rfl, _, rfl, b, ys, _, v, rfl, rfl, same_t hP.1 sy, at_of ei hv, u, v, ds[i], rfl, dp_same hP.1 du, dp_same hP.1 dv, hds _ hm, ?_, fun H5 s5 => ?_⟩
      · have := depth_mem hm; omega
      · refine ⟨_, s5 _ _ hP.2, Nat.lt_of_le_of_lt (by rw [List.length_map, List.length_replicate]; omega) (show 1000000 < sizeLine by decide), Evl.Ex.mut (hP.1.trans s5) hD, by rw [upd_same, rep]⟩
    · refine ⟨D, _, rfl, SqL.of hP.2, ?_⟩
      rw [show (List.replicate ((ys.length : Nat) : Int).toNat true).all id = true from by rw [List.all_replicate]; simp]
      exact q H' hP.1
  | int i =>
    cases hx
    cases hy
    refine ⟨_, rfl, _, _, _, _, false, rfl, .ty _, .base (.int i), kit_ty (by decide +kernel), false, rfl, iteF ?_⟩
    refine ⟨_, rfl, _, _, _, _, false, rfl, .ty _, .base (.int i), kit_ty (by decide +kernel), false, rfl, iteF ?_⟩
    refine ⟨_, rfl, i, rfl, true, rfl, iteT ?_⟩
    refine ⟨_, rfl, _, rfl, rfl, ?_⟩
    rw [decide_eq_true rfl]
    exact q H (Same.refl H)
  | str z =>
    cases hx
    cases hy
    refine ⟨_, rfl, _, _, _, _, false, rfl, .ty _, .base (.str z), kit_ty (by decide +kernel), false, rfl, iteF ?_⟩
    refine ⟨_, rfl, _, _, _, _, true, rfl, .ty _, .base (.str z), kit_ty (by decide +kernel), true, rfl, iteT ?_⟩
    refine ⟨_, rfl, _, _, _, _, true, rfl, .ty _, .base (.str z), kit_ty (by decide +kernel), true, rfl, iteT ?_⟩
    refine ⟨_, rfl, _, rfl, rfl, ?_⟩
    rw [decide_eq_true rfl]
    exact q H (Same.refl H)
end
end Tie
namespace Tie
open PySem PySem.Spec PyProof.Rows L2

/-! ### rows of texts in the heap -/
/-- the tuples stay -/
def TK (K : PySem.W.Frag) (H H' : Hp) : Prop := ∀ a xs, SqT K H a xs → SqT K H' a xs
theorem TK.refl (K : PySem.W.Frag) (H : Hp) : TK K H H := fun _ _ h => h
theorem TK.trans {K : PySem.W.Frag} {H H1 H2 : Hp} (a : TK K H H1) (b : TK K H1 H2) : TK K H H2 := fun x xs h => b x xs (a x xs h)
theorem TK.same {K : PySem.W.Frag} {H H' : Hp} (e : Same H H') : TK K H H' := fun a xs h => same_t e h
theorem TK.lst {K : PySem.W.Frag} {H : Hp} {p : Addr} {ys : List V} {o : HO} (e : H p = some (.lst ys)) : TK K H (upd H p o) := fun a xs h => by
  rcases h with (h | ⟨u, h⟩) | h
  · exact .inl (.inl (by rw [upd_ne (ne_of h e (by intro z; cases z))]; exact h))
  · exact .inl (.inr ⟨u, by rw [upd_ne (ne_of h e (by intro z; cases z))]; exact h⟩)
  · exact .inr h
theorem TK.new {K : PySem.W.Frag} {H : Hp} {p : Addr} {o : HO} (e : H p = none) : TK K H (upd H p o) := TK.same (Evl.Ex.new e)
/-- the values of rows -/
def Rows (K : PySem.W.Frag) (H : Hp) : List V → List (List Str) → Prop := Paired fun v r => ∃ a, v = .ref a ∧ SqT K H a (r.map V.str)
theorem Rows.tk {K : PySem.W.Frag} {H H' : Hp} (k : TK K H H') {vs : List V} {rs : List (List Str)} (h : Rows K H vs rs) : Rows K H' vs rs :=
  Paired.mapP h fun _ _ ⟨a, e, q⟩ => ⟨a, e, k a _ q⟩
theorem Rows.app {K : PySem.W.Frag} {H : Hp} : ∀ {vs ws : List V} {rs qs : List (List Str)}, Rows K H vs rs → Rows K H ws qs → Rows K H (vs ++ ws) (rs ++ qs)
  | _, _, _, _, .nil, k => k
  | _, _, _, _, .cons h t, k => .cons h (Rows.app t k)
theorem Rows.len {K : PySem.W.Frag} {H : Hp} {vs : List V} {rs : List (List Str)} (h : Rows K H vs rs) : vs.length = rs.length := Paired.length h
theorem Rows.at {K : PySem.W.Frag} {H : Hp} : ∀ {vs : List V} {rs : List (List Str)} {i : Nat} {v : V}, Rows K H vs rs → vs[i]? = some v → ∃ r a, rs[i]? = some r ∧ v = .ref a ∧ SqT K H a (r.map V.str)
  | _, _, 0, _, .cons ⟨a, e, h⟩ t, q => by
    rw [List.getElem?_cons_zero] at q; cases q; exact ⟨_, a, rfl, e, h⟩
  | _, _, i + 1, _, .cons h t, q => by
    rw [List.getElem?_cons_succ] at q
    obtain ⟨r, a, h1, h2⟩ := Rows.at t q
    exact ⟨r, a, by rw [List.getElem?_cons_succ]; exact h1, h2⟩
theorem dpAll_strs {K : PySem.W.Frag} {H : Hp} : ∀ r : List Str, DpAll K H (r.map V.str) (r.map PyData.str)
  | [] => .nil
  | x :: r => .cons (.str x) (dpAll_strs r)
theorem strs_dpAll {K : PySem.W.Frag} {H : Hp} : ∀ {r : List Str} {xs : List V}, DpAll K H xs (r.map PyData.str) → xs = r.map V.str
  | [], xs, h => by
    have h' : DpAll K H xs [] := h
    cases h'; rfl
  | x :: r, xs, h => by
    have h' : DpAll K H xs (.str x :: r.map PyData.str) := h
    cases h' with | cons h1 h2 => cases h1; rw [strs_dpAll h2]; rfl
theorem Rows.dp {K : PySem.W.Frag} {H : Hp} : ∀ {vs : List V} {rs : List (List Str)}, Rows K H vs rs → DpAll K H vs (rs.map encR)
  | _, _, .nil => .nil
  | _, _, .cons ⟨a, e, h⟩ t => .cons (by rw [e]; exact .tup h (dpAll_strs _)) (Rows.dp t)
theorem rows_of {K : PySem.W.Frag} {H : Hp} : ∀ {rs : List (List Str)} {vs : List V}, DpAll K H vs (rs.map encR) → Rows K H vs rs
  | [], vs, h => by
    have h' : DpAll K H vs [] := h
    cases h'; exact .nil
  | r :: rs, vs, h => by
    have h' : DpAll K H vs (encR r :: rs.map encR) := h
    cases h' with
    | cons h1 h2 =>
      unfold encR at h1
      cases h1 with
      | tup q1 q2 => exact .cons ⟨_, rfl, by rw [← strs_dpAll q2]; exact q1⟩ (rows_of h2)
theorem alike_strs : ∀ a b : List Str, PySem.W.alikeAll (a.map PyData.str) (b.map PyData.str) = true
  | [], _ => by simp [PySem.W.alikeAll]
  | _ :: _, [] => by simp [PySem.W.alikeAll]
  | x :: a, y :: b => by
    show PySem.W.alikeAll (.str x :: a.map PyData.str) (.str y :: b.map PyData.str) = true
    rw [PySem.W.alikeAll, alike_strs a b]
    simp [PySem.W.alike]
theorem depth_strs : ∀ a : List Str, PyData.depthAll (a.map PyData.str) = 0
  | [] => by simp [PyData.depthAll]
  | x :: a => by
    show PyData.depthAll (.str x :: a.map PyData.str) = 0
    rw [PyData.depthAll, depth_strs a]
    simp [PyData.depth]
theorem encR_depth (r : List Str) : (encR r).depth = 1 := by
  unfold encR
  rw [PyData.depth, depth_strs]
/-- what sorted(..) asks of a list of rows, and gives -/
theorem sort_rows {K : PySem.W.Frag} {H : Hp} {a : Addr} {vs : List V} {rs : List (List Str)} {Q : VK} (hS : SqL K H a vs) (hR : Rows K H vs rs) (hne : ∀ r ∈ rs, r ≠ []) (h : ∀ ys p, H p = none → Rows K H ys (sortR rs) → Q (.ref p) (upd H p (.lst ys))) : rSortDat K [.ref a] H Q := by
  refine ⟨a, vs, rs.map encR, rfl, hS, hR.dp, ?_, ?_, ?_, fun ys p hp hd _ => h ys p hp (rows_of (by rw [← sortR_map]; exact hd))⟩
  · refine PySem.W.AllAlike.of fun b b' => ?_
    unfold encR
    rw [PySem.W.alike]
    exact alike_strs b b'
  · refine .inl fun d hd => ?_
    obtain ⟨r, hr, rfl⟩ := List.mem_map.mp hd
    cases r with
    | nil => exact absurd rfl (hne _ hr)
    | cons x r => exact ⟨_, _, rfl⟩
  · intro d hd
    obtain ⟨r, hr, rfl⟩ := List.mem_map.mp hd
    rw [encR_depth]
    decide

theorem longer_take {names : List Str} {rows : List (List Str)} {i : Nat} {r : List Str} (h : rows[i]? = some r) : longer names (rows.take (i + 1)) = longer names (rows.take i) ++ (names.filter (okR · r)).map (fun x => r ++ [x]) := by
  rw [List.take_add_one, h]
  unfold longer
  rw [List.flatMap_append]
  simp
theorem filt_take {names : List Str} {r : List Str} {j : Nat} {x : Str} (h : names[j]? = some x) : ((names.take (j + 1)).filter (okR · r)).map (fun x => r ++ [x]) = ((names.take j).filter (okR · r)).map (fun x => r ++ [x]) ++ (if okR x r = true then [r ++ [x]] else []) := by
  rw [List.take_add_one, h, List.filter_append, List.map_append]
  congr 1
  by_cases c : okR x r = true
  · simp [c]
  · simp [c]
theorem okR_snoc {x : Str} {r : List Str} {l : Str} (h : r.getLast? = some l) : okR x r = !decide (x.cps.toList < l.cps.toList) := by
  unfold okR; rw [h]
theorem last_atI {r : List Str} (h : r ≠ []) : ∃ l, r.getLast? = some l ∧ atI (r.map V.str) (-1) = some (.str l) := by
  have hl : 0 < r.length := List.length_pos_iff.mpr h
  refine ⟨r.getLast h, List.getLast?_eq_some_getLast h, ?_⟩
  unfold atI
  have e : ixN (r.map V.str).length (-1) = some (r.length - 1) := by
    unfold ixN
    rw [List.length_map, if_neg (by decide), if_pos (by omega)]
    congr 1
    omega
  rw [e]
  show (r.map V.str)[r.length - 1]? = some (.str (r.getLast h))
  rw [List.getElem?_map, ← List.getLast?_eq_getElem?, List.getLast?_eq_some_getLast h]
  rfl
section
variable {P : Program} {w : World} {K : PySem.W.Frag} {mg : Str → Option Value} {base : Heap}
/-- row + (x,) -/
theorem cat_row {H : Hp} {b t : Addr} {r : List Str} {x : Str} {Q : VK} (hb : SqT K H b (r.map V.str)) (ht : SqT K H t [.str x]) (hl : r.length ≤ 1000) (q : ∀ p H', Same H H' → SqT K H' p ((r ++ [x]).map V.str) → Q (.ref p) H') : rCatA K (.ref b) (.ref t) H Q := by
  refine ⟨b, t, _, _, rfl, rfl, hb, ht, Nat.le_of_lt (Nat.lt_of_le_of_lt (by rw [List.length_map]; show r.length + 1 ≤ 100000; omega) (show 100000 < sizeLine by decide)), fun e => ?_, (fun _ e => by cases e), fun _ _ p hp => ?_⟩
  · refine q t H (Same.refl H) ?_
    have e' : r = [] := List.map_eq_nil_iff.mp e
    rw [e']
    exact ht
  · refine q p _ (Evl.Ex.new hp) ?_
    rw [List.map_append]
    exact SqT.of upd_same
/-- the test: row == () or row[-1] <= x -/
theorem len_le {n : Nat} (h : n ≤ 100000) : n < sizeLine := Nat.lt_of_le_of_lt h (by decide)
def spLonger (K : PySem.W.Frag) : Sp := fun vs H Q _ => ∃ (na ra : Addr) (ws : List Str) (rvs : List V) (rows : List (List Str)), vs = [.ref na, .ref ra] ∧ SqL K H na (ws.map V.str) ∧ SqL K H ra rvs ∧ Rows K H rvs rows ∧ ws.length ≤ 5 ∧ rows.length ≤ 1000 ∧
  (∀ r ∈ rows, r.length ≤ 1000) ∧ ∀ p ys H', H p = none → Same H H' → H' p = some (.lst ys) → Rows K H' ys (sortR (longer ws rows)) → Q (.ref p) H'
theorem sc_law_longer : FnScope ["names", "rows", "found", "row", "x"] ["names", "rows"] (defScope s_law_longer) := ⟨rfl, rfl, rfl, by decide +kernel, rfl, by decide +kernel, by decide +kernel⟩
theorem ok_longer {f : Addr} {fd : FuncData} (F : Fun K "_law_longer" "_law_longer" s_law_longer f fd) (B : Bu mg) : FnOk P w K mg base CX0 1 f fd ["names", "rows"] (spLonger K) := by
  have m_sorted := B.m_sorted
  refine F.ok sc_law_longer (fun vs H Q E h => ?_) (fun cdv A outer s H vs Q E hr h => ?_)
  · obtain ⟨na, ra, ws, rvs, rows, rfl, _⟩ := h
    rfl
  have hu64 : (A.deeper (envOfC "_law_longer" (defScope s_law_longer) s.heap.objs.size f cdv)).units + 64 < cLine := by have := hr.un; omega
  obtain ⟨na, ra, ws, rvs, rows, rfl, hN, hR, hrows, hw, hrl, hre, q⟩ := h
  refine ⟨_, (pss_cons (ps_set (i := 2) sc_law_longer.nd rfl (Or.inl rfl) (pe_lst pa_nil))
    (pss_cons (ps_for PassesOwn.never rfl (pi_list (pv 1)) (pg_name (i := 3) sc_law_longer.nd rfl (Or.inl rfl))
    (pss_one (ps_for PassesOwn.never rfl (pi_list (pv 0)) (pg_name (i := 4) sc_law_longer.nd rfl (Or.inl rfl))
    (pss_one (ps_if (PW.pt (pw_or (pt_cmpR (op_eqE hu64) (pv 3) (pe_tup pa_nil) (nomark _)) (pw_or1 (pt_cmpR op_le_str (pe_ix ix_tup (pv 3) (pe_un un_neg pe_int) (fun _ _ => rfl)) (pv 4) (nomark _))))) (pss_one (ps_expr (pe_bm PySem.F.plainAttrs_list PySem.F.slot_list_append PySem.F.type_list_append mt_append (pv 2) (pa_cons (pe_op op_catA (pv 3) (pe_tup (pa_cons (pv 4) pa_nil))) pa_nil)))) pss_nil)))))
    (pss_one (ps_ret (pe_callB (cr_sortDat hu64) (by rfl) m_sorted boot_sorted (pa_cons (pv 2) pa_nil)))))), ?_⟩
  refine ⟨Nat.zero_le _, fun fo nf => ?_⟩
  have x0 : Same H (upd H fo (.lst [])) := Evl.Ex.new nf
  refine ⟨_, rfl, ra, rfl, ⟨_, x0.seq hR⟩, for_list (K := K) (a := ra) (xs := rvs) (fun i σ H1 => ∃ v3 v4 acc, σ = [some (.ref na), some (.ref ra), some (.ref fo), v3, v4] ∧ Same H H1 ∧ H1 fo = some (.lst acc) ∧ Rows K H1 acc (longer ws (rows.take i)))
    ⟨none, none, [], rfl, x0, upd_same, .nil⟩ (fun i σ H1 _ ⟨_, _, _, _, sm, _⟩ => sm.seq hR) ?_ ?_⟩
  · rintro i v σ H1 hi ⟨v3, v4, acc, rfl, sm, hf, hacc⟩
    obtain ⟨r, b, hr', rfl, hb⟩ := (hrows.tk (TK.same sm)).at hi
    have hil : i < rows.length := (List.getElem?_eq_some_iff.mp hr').1
    have hrm : r ∈ rows := List.mem_of_getElem? hr'
    refine ⟨_, rfl, na, rfl, ⟨_, sm.seq hN⟩, for_list (K := K) (a := na) (xs := ws.map V.str) (fun j σ H2 => ∃ v4 acc, σ = [some (.ref na), some (.ref ra), some (.ref fo), some (.ref b), v4] ∧ Same H H2 ∧ SqT K H2 b (r.map V.str) ∧ H2 fo = some (.lst acc) ∧ Rows K H2 acc (longer ws (rows.take i) ++ ((ws.take j).filter (okR · r)).map (fun x => r ++ [x])))
      ⟨v4, acc, rfl, sm, hb, hf, by simpa using hacc⟩ (fun j σ H2 _ ⟨_, _, _, sm2, _⟩ => sm2.seq hN) ?_ ?_⟩
    · rintro j v σ H2 hj ⟨v4, acc, rfl, sm2, hb2, hf2, hacc2⟩
      have hj2 : j < ws.length := by
        have := (List.getElem?_eq_some_iff.mp hj).1
        rw [List.length_map] at this
        exact this
      obtain ⟨x, hx, rfl⟩ : ∃ x, ws[j]? = some x ∧ v = V.str x := by
        rw [List.getElem?_map, List.getElem?_eq_getElem hj2] at hj
        exact ⟨ws[j], List.getElem?_eq_getElem hj2, (Option.some.inj hj).symm⟩
      have hacn : acc.length ≤ 50000 := by
        have e := hacc2.len
        rw [List.length_append, List.length_map] at e
        have h1 := longer_len hw (rows.take i)
        have h2 := List.length_filter_le (okR · r) (ws.take j)
        have h3 : (rows.take i).length ≤ 1000 := by rw [List.length_take]; omega
        have h4 : (ws.take j).length ≤ 5 := by rw [List.length_take]; omega
        omega
      -- found.append(row + (x,))
      have app : okR x r = true → ∀ H3, Same H2 H3 → tDrop (tBM K "list" rAppend (tVar 2) (tCons (tOp (rCatA K) (tVar 3) (tTup (tCons (tVar 4) tNil))) tNil))
          { nx := fun σ H2 => ∃ v4 acc, σ = [some (.ref na), some (.ref ra), some (.ref fo), some (.ref b), v4] ∧ Same H H2 ∧ SqT K H2 b (r.map V.str) ∧ H2 fo = some (.lst acc) ∧ Rows K H2 acc (longer ws (rows.take i) ++ ((ws.take (j + 1)).filter (okR · r)).map (fun x => r ++ [x])), rt := Q }
          [some (.ref na), some (.ref ra), some (.ref fo), some (.ref b), some (.str x)] H3 := fun hok H3 s3 => by
        refine ⟨_, rfl, .inl ⟨rfl, _, SqL.of (s3 _ _ hf2)⟩, _, rfl, _, rfl, by show 1 ≤ sizeLine; decide, fun t nt => ?_⟩
        have s4 : Same H2 (upd H3 t (.tup [.str x])) := s3.trans (Evl.Ex.new nt)
        refine cat_row (same_t s4 hb2) (SqT.of upd_same) (hre r hrm) fun p H5 s5 hp => ?_
        have s6 := s4.trans s5
        have hf5 := s6 _ _ hf2
        refine ⟨fo, acc, .ref p, rfl, rfl, hf5, len_le (by omega), _, _, rfl, Evl.Ex.mut (sm2.trans s6) nf, (TK.lst hf5) _ _ (same_t s6 hb2), upd_same, ?_⟩
        rw [filt_take hx, if_pos hok, ← List.append_assoc]
        exact ((hacc2.tk (TK.same s6)).tk (TK.lst hf5)).app (.cons ⟨p, rfl, TK.lst hf5 _ _ hp⟩ .nil)
      have skip : okR x r = false → ∀ H3, Same H2 H3 → ∃ v4 acc, ([some (.ref na), some (.ref ra), some (.ref fo), some (.ref b), some (.str x)] : L2.St) = [some (.ref na), some (.ref ra), some (.ref fo), some (.ref b), v4] ∧ Same H H3 ∧ SqT K H3 b (r.map V.str) ∧ H3 fo = some (.lst acc) ∧ Rows K H3 acc (longer ws (rows.take i) ++ ((ws.take (j + 1)).filter (okR · r)).map (fun x => r ++ [x])) := fun hno H3 s3 => by
        refine ⟨_, acc, rfl, sm2.trans s3, same_t s3 hb2, s3 _ _ hf2, ?_⟩
        rw [filt_take hx, hno, if_neg Bool.false_ne_true, List.append_nil]
        exact hacc2.tk (TK.same s3)
      refine ⟨_, rfl, Nat.zero_le _, fun t nt => ⟨b, t, _, rfl, rfl, same_t (Evl.Ex.new nt) hb2, SqT.of upd_same, _, rfl, ?_⟩⟩
      have s3 : Same H2 (upd H2 t (.tup [])) := Evl.Ex.new nt
      cases r with
      | nil => exact iteT (iteT (app rfl _ s3))
      | cons y r =>
        obtain ⟨l, hl, hat⟩ := last_atI (r := y :: r) (by simp)
        refine iteF ⟨_, rfl, 1, rfl, b, _, _, _, rfl, rfl, same_t s3 hb2, hat, _, rfl, l, x, rfl, rfl, _, rfl, ?_⟩
        have eo := okR_snoc (x := x) hl
        rw [← eo]
        refine ite2 (fun c => app c _ s3) (fun c => skip (by simpa using c) _ s3)
    · rintro σ H2 ⟨v4, acc, rfl, sm2, hb2, hf2, hacc2⟩
      refine ⟨_, v4, acc, rfl, sm2, hf2, ?_⟩
      rw [longer_take hr']
      rw [List.length_map, List.take_length] at hacc2
      exact hacc2
  · rintro σ H1 ⟨v3, v4, acc, rfl, sm, hf, hacc⟩
    rw [hrows.len, List.take_length] at hacc
    refine ⟨_, rfl, sort_rows (SqL.of hf) hacc (fun r hr => ?_) fun ys p hp hy => ?_⟩
    · obtain ⟨g, _, hg⟩ := List.mem_flatMap.mp hr
      obtain ⟨x, _, rfl⟩ := List.mem_map.mp hg
      simp
    · exact q p ys _ (sm.free hp) (sm.trans (Evl.Ex.new hp)) upd_same (hy.tk (TK.new hp))
end
end Tie
namespace Tie
open PySem PySem.Spec PyProof.Rows L2

/-! ### the loops of comprehensions, for any body -/
theorem wit_list {K : PySem.W.Frag} {a : Addr} {xs : List V} {H1 : Hp} {Qd : Hp → Prop} {B : V → Hp → (Hp → Prop) → Prop} (Pv : Nat → Hp → Prop) (h0 : Pv 0 H1) (hl : ∀ i H, i ≤ xs.length → Pv i H → SqL K H a xs)
    (hs : ∀ i x H, xs[i]? = some x → Pv i H → B x H (Pv (i + 1))) (hd : ∀ H, Pv xs.length H → Qd H) :
    ∃ W : Nat → Nat → Hp → Prop, (∃ m, W 0 m H1) ∧ ∀ i m H, W i m H → ((Itl K a).stop i H ∧ Qd H) ∨ ((Itl K a).go i H ∧ ∃ Nx : Hp → Prop, (∀ H', Nx H' → ∃ m', m' < m ∧ W (i + 1) m' H') ∧ ∀ x H', (Itl K a).yld i H x H' → B x H' Nx) := by
  refine ⟨fun i m H => m = xs.length - i ∧ i ≤ xs.length ∧ Pv i H, ⟨xs.length, by simp, Nat.zero_le _, h0⟩, ?_⟩
  rintro i m H ⟨rfl, hi, p⟩
  have q := hl i H hi p
  by_cases hlt : i < xs.length
  · refine .inr ⟨⟨xs, xs[i], q, by simp [hlt]⟩, Pv (i + 1), fun H' p' => ⟨xs.length - (i + 1), by omega, rfl, hlt, p'⟩, fun x H' y => ?_⟩
    obtain ⟨e, y⟩ := y
    subst e
    exact hs i x H' (y xs q) p
  · have e : i = xs.length := by omega
    subst e
    exact .inl ⟨⟨xs, q, Nat.le_refl _⟩, hd H p⟩
theorem wit_tup {K : PySem.W.Frag} {a : Addr} {xs : List V} {H1 : Hp} {Qd : Hp → Prop} {B : V → Hp → (Hp → Prop) → Prop} (Pv : Nat → Hp → Prop) (h0 : Pv 0 H1) (hl : ∀ i H, i ≤ xs.length → Pv i H → SqT K H a xs)
    (hs : ∀ i x H, xs[i]? = some x → Pv i H → B x H (Pv (i + 1))) (hd : ∀ H, Pv xs.length H → Qd H) :
    ∃ W : Nat → Nat → Hp → Prop, (∃ m, W 0 m H1) ∧ ∀ i m H, W i m H → ((Itt K a).stop i H ∧ Qd H) ∨ ((Itt K a).go i H ∧ ∃ Nx : Hp → Prop, (∀ H', Nx H' → ∃ m', m' < m ∧ W (i + 1) m' H') ∧ ∀ x H', (Itt K a).yld i H x H' → B x H' Nx) := by
  refine ⟨fun i m H => m = xs.length - i ∧ i ≤ xs.length ∧ Pv i H, ⟨xs.length, by simp, Nat.zero_le _, h0⟩, ?_⟩
  rintro i m H ⟨rfl, hi, p⟩
  have q := hl i H hi p
  by_cases hlt : i < xs.length
  · refine .inr ⟨⟨xs, xs[i], q, by simp [hlt]⟩, Pv (i + 1), fun H' p' => ⟨xs.length - (i + 1), by omega, rfl, hlt, p'⟩, fun x H' y => ?_⟩
    obtain ⟨e, y⟩ := y
    subst e
    exact hs i x H' (y xs q) p
  · have e : i = xs.length := by omega
    subst e
    exact .inl ⟨⟨xs, q, Nat.le_refl _⟩, hd H p⟩

section
variable {P : Program} {w : World} {K : PySem.W.Frag} {mg : Str → Option Value} {base : Heap}
def spMono (K : PySem.W.Frag) : Sp := fun vs H Q _ => ∃ (na : Addr) (ws : List Str) (k : Nat), vs = [.ref na, .int (k : Int)] ∧ SqT K H na (ws.map V.str) ∧ ws.length ≤ 5 ∧ k ≤ 4 ∧
  ∀ p ys H', H p = none → Same H H' → H' p = some (.lst ys) → Rows K H' ys (foundP ws k) → Q (.ref p) H'
theorem sc_monomials_of : FnScope ["names", "degree", "found", "last", "turn", "one", "name"] ["names", "degree"] (defScope s_monomials_of) := ⟨rfl, rfl, rfl, by decide +kernel, rfl, by decide +kernel, by decide +kernel⟩
theorem ok_mono {f : Addr} {fd : FuncData} (F : Fun K "monomials_of" "monomials_of" s_monomials_of f fd) (B : Bu mg) : FnOk P w K mg base CX0 1 f fd ["names", "degree"] (spMono K) := by
  have m_sorted := B.m_sorted
  have m_range := B.m_range
  refine F.ok sc_monomials_of (fun vs H Q E h => ?_) (fun cdv A outer s H vs Q E hr h => ?_)
  · obtain ⟨na, ws, k, rfl, _⟩ := h
    rfl
  have hu64 : (A.deeper (envOfC "monomials_of" (defScope s_monomials_of) s.heap.objs.size f cdv)).units + 64 < cLine := by have := hr.un; omega
  obtain ⟨na, ws, k, rfl, hN, hw, hk, q⟩ := h
  refine ⟨_, (pss_cons (ps_set (i := 2) sc_monomials_of.nd rfl (Or.inl rfl) (pe_lst (pa_cons (pe_tup pa_nil) pa_nil)))
    (pss_cons (ps_set (i := 3) sc_monomials_of.nd rfl (Or.inl rfl) (pe_lst (pa_cons (pe_tup pa_nil) pa_nil)))
    (pss_cons (ps_for PassesOwn.never rfl (pi_range1 rfl m_range (pa_cons (pv 1) pa_nil)) (pg_name (i := 4) sc_monomials_of.nd rfl (Or.inl rfl))
    (pss_cons (ps_setLc2 (i := 3) (own := [("one", 5), ("name", 6)]) (vs1 := [6]) rfl sc_monomials_of.nd rfl rfl (sw_true rfl rfl rfl (by decide +kernel)) (pi_list (pv 3)) (blkOk_by (sc := defScope s_monomials_of) (N := ["names", "degree", "found", "last", "turn", "one", "name"]) (own := [("one", 5), ("name", 6)]) (by decide +kernel)) (by decide)
      (fun _ _ _ _ _ => (pg_name (i := 5) sc_monomials_of.nd rfl (Or.inl rfl))) (fun _ _ _ _ _ => pts_nil) (fun _ _ _ _ _ => (show PI _ _ _ (iTup K _) from pi_tup (pv 0))) (fun _ _ _ _ _ => (pg_name (i := 6) sc_monomials_of.nd rfl (Or.inl rfl))) (fun _ _ _ _ _ => pts_one (PW.pt (pw_or (pt_cmpR (show OpR _ (compareOp .Eq) (rEqE K) from (op_eqE hu64)) (pv 5) (pe_tup pa_nil) (nomark _)) (pw_or1 (pt_cmpR op_le_str (pe_ix (show IxR _ (rIxT K) from ix_tup) (pv 5) (pe_un un_neg pe_int) (fun _ _ => rfl)) (pv 6) (nomark _)))))) (fun _ _ _ _ _ => (pe_op (show OpR _ (binaryOp .Add) (rCatA K) from op_catA) (pv 5) (pe_tup (pa_cons (pv 6) pa_nil)))))
    (pss_one (ps_expr (pe_bm PySem.F.plainAttrs_list PySem.F.slot_list_extend PySem.F.type_list_extend mt_extend (pv 2) (pa_cons (pe_callB (cr_sortDat hu64) (by rfl) m_sorted boot_sorted (pa_cons (pv 3) pa_nil)) pa_nil))))))
    (pss_one (ps_ret (pv 2)))))), ?_⟩
  refine ⟨Nat.zero_le _, fun e1 ne1 => ⟨by show 1 ≤ sizeLine; decide, fun fo nf => ⟨Nat.zero_le _, fun e2 ne2 => ⟨by show 1 ≤ sizeLine; decide, fun la nl => ?_⟩⟩⟩⟩
  have x1 : Same H (upd H e1 (.tup [])) := Evl.Ex.new ne1
  have x2 := x1.trans (Evl.Ex.new (o := .lst [.ref e1]) nf)
  have x3 := x2.trans (Evl.Ex.new (o := .tup []) ne2)
  have x4 := x3.trans (Evl.Ex.new (o := .lst [.ref e2]) nl)
  have f0 : H fo = none := x1.free nf
  have l0 : H la = none := x3.free nl
  have fl : fo ≠ la := fun e => by rw [← e, upd_ne (ne_of_none upd_same ne2), upd_same] at nl; cases nl
  have hf0 : (upd (upd (upd (upd H e1 (.tup [])) fo (.lst [.ref e1])) e2 (.tup [])) la (.lst [.ref e2])) fo = some (.lst [.ref e1]) := by
    rw [upd_ne fl, upd_ne (ne_of_none upd_same ne2), upd_same]
  have r1 : SqT K (upd (upd (upd (upd H e1 (.tup [])) fo (.lst [.ref e1])) e2 (.tup [])) la (.lst [.ref e2])) e1 [] :=
    same_t (Evl.Ex.new nl) (same_t (Evl.Ex.new ne2) (same_t (Evl.Ex.new nf) (SqT.of upd_same)))
  have r2 : SqT K (upd (upd (upd (upd H e1 (.tup [])) fo (.lst [.ref e1])) e2 (.tup [])) la (.lst [.ref e2])) e2 [] :=
    same_t (Evl.Ex.new nl) (SqT.of upd_same)
  refine ⟨_, rfl, (k : Int), rfl, by omega, by omega, for_range (lo := 0) (n := ((k : Int)).toNat) (fun i σ H1 => ∃ la acc lv v4 v5 v6, σ = [some (.ref na), some (.int (k : Int)), some (.ref fo), some (.ref la), v4, v5, v6] ∧ Same H H1 ∧ H1 fo = some (.lst acc) ∧ H1 la = some (.lst lv) ∧ fo ≠ la ∧ H la = none ∧ Rows K H1 acc (foundP ws i) ∧ Rows K H1 lv (lastP ws i))
    ⟨la, _, _, none, none, none, rfl, x4, hf0, upd_same, fl, l0, .cons ⟨e1, rfl, r1⟩ .nil, .cons ⟨e2, rfl, r2⟩ .nil⟩ ?_ ?_⟩
  · rintro i σ H1 hi ⟨la, acc, lv, v4, v5, v6, rfl, sm, hf, hl, nfl, l0, hacc, hlv⟩
    have hi4 : i < 4 := by omega
    have hlen5 : (lastP ws i).length ≤ 625 := by
      have h := lastP_len hw i
      have h2 : (5 : Nat) ^ i ≤ 5 ^ 4 := Nat.pow_le_pow_right (by decide) (by omega)
      omega
    -- last = [one + (name,) for one in last for name in names if ..]
    refine ⟨_, rfl, la, rfl, ⟨_, SqL.of hl⟩, fun D hD => ?_⟩
    have nDl : la ≠ D := ne_of_none hl hD
    have nDf : fo ≠ D := ne_of_none hf hD
    refine wit_list (xs := lv) (fun i2 H2 => Same H1 H2 ∧ ∃ a2, H2 D = some (.lst a2) ∧ Rows K H2 a2 (longer ws ((lastP ws i).take i2))) ⟨Evl.Ex.new hD, [], upd_same, .nil⟩ (fun i2 H2 _ hP => SqL.of (hP.1 _ _ hl)) ?_ ?_
    · rintro i2 v H2 hv ⟨s2, a2, hD2, ha2⟩
      obtain ⟨r, b, hr', rfl, hb⟩ := (hlv.tk (TK.same s2)).at hv
      have hrl : r.length ≤ 1000 := by rw [lastP_mem i r (List.mem_of_getElem? hr')]; omega
      refine ⟨rfl, ?_⟩
      refine iteT (B := Same H1 H2 ∧ ∃ a2, H2 D = some (.lst a2) ∧ Rows K H2 a2 (longer ws ((lastP ws i).take (i2 + 1)))) ?_
      refine ⟨_, rfl, na, rfl, ⟨_, same_t (sm.trans s2) hN⟩, ?_⟩
      refine wit_tup (xs := ws.map V.str) (fun j H3 => Same H1 H3 ∧ SqT K H3 b (r.map V.str) ∧ ∃ a3, H3 D = some (.lst a3) ∧ Rows K H3 a3 (longer ws ((lastP ws i).take i2) ++ ((ws.take j).filter (okR · r)).map (fun x => r ++ [x]))) ⟨s2, hb, a2, hD2, by simpa using ha2⟩ (fun j H3 _ hP => same_t (sm.trans hP.1) hN) ?_ ?_
      · rintro j v H3 hj ⟨s3, hb3, a3, hD3, ha3⟩
        have hj2 : j < ws.length := by
          have := (List.getElem?_eq_some_iff.mp hj).1
          rw [List.length_map] at this
          exact this
        obtain ⟨x, hx, rfl⟩ : ∃ x, ws[j]? = some x ∧ v = V.str x := by
          rw [List.getElem?_map, List.getElem?_eq_getElem hj2] at hj
          exact ⟨ws[j], List.getElem?_eq_getElem hj2, (Option.some.inj hj).symm⟩
        refine ⟨rfl, ?_⟩
        have hacn : a3.length ≤ 50000 := by
          have e := ha3.len
          rw [List.length_append, List.length_map] at e
          have h1 := longer_len hw ((lastP ws i).take i2)
          have h2 := List.length_filter_le (okR · r) (ws.take j)
          have h3 : ((lastP ws i).take i2).length ≤ 625 := by rw [List.length_take]; omega
          have h4 : (ws.take j).length ≤ 5 := by rw [List.length_take]; omega
          omega
        -- one + (name,)
        have app : okR x r = true → ∀ H4, Same H3 H4 → tOp (rCatA K) (tVar 5) (tTup (tCons (tVar 6) tNil)) [some (.ref na), some (.int (k : Int)), some (.ref fo), some (.ref la), some (.int (0 + (i : Int))), some (.ref b), some (.str x)] H4
            (fun y H7 => ∃ acc, H7 D = some (.lst acc) ∧ acc.length < sizeLine ∧ (Same H1 (upd H7 D (.lst (acc ++ [y]))) ∧ SqT K (upd H7 D (.lst (acc ++ [y]))) b (r.map V.str) ∧ ∃ a3, (upd H7 D (.lst (acc ++ [y]))) D = some (.lst a3) ∧ Rows K (upd H7 D (.lst (acc ++ [y]))) a3 (longer ws ((lastP ws i).take i2) ++ ((ws.take (j + 1)).filter (okR · r)).map (fun x => r ++ [x])))) := fun hok H4 s4 => by
          refine ⟨_, rfl, _, rfl, by show 1 ≤ sizeLine; decide, fun t nt => ?_⟩
          have s5 : Same H3 (upd H4 t (.tup [.str x])) := s4.trans (Evl.Ex.new nt)
          refine cat_row (same_t s5 hb3) (SqT.of upd_same) hrl fun p H5 s6 hp => ?_
          have s7 := s5.trans s6
          have hD5 := s7 _ _ hD3
          refine ⟨a3, hD5, len_le (by omega), Evl.Ex.mut (s3.trans s7) hD, (TK.lst hD5) _ _ (same_t s7 hb3), _, upd_same, ?_⟩
          rw [filt_take hx, if_pos hok, ← List.append_assoc]
          exact ((ha3.tk (TK.same s7)).tk (TK.lst hD5)).app (.cons ⟨p, rfl, TK.lst hD5 _ _ hp⟩ .nil)
        have skip : okR x r = false → ∀ H4, Same H3 H4 → (Same H1 H4 ∧ SqT K H4 b (r.map V.str) ∧ ∃ a3, H4 D = some (.lst a3) ∧ Rows K H4 a3 (longer ws ((lastP ws i).take i2) ++ ((ws.take (j + 1)).filter (okR · r)).map (fun x => r ++ [x]))) := fun hno H4 s4 => by
          refine ⟨s3.trans s4, same_t s4 hb3, a3, s4 _ _ hD3, ?_⟩
          rw [filt_take hx, hno, if_neg Bool.false_ne_true, List.append_nil]
          exact ha3.tk (TK.same s4)
        refine ⟨_, rfl, Nat.zero_le _, fun t nt => ⟨b, t, _, rfl, rfl, same_t (Evl.Ex.new nt) hb3, SqT.of upd_same, _, rfl, ?_⟩⟩
        have s4 : Same H3 (upd H3 t (.tup [])) := Evl.Ex.new nt
        cases r with
        | nil => exact iteT (iteT (app rfl _ s4))
        | cons y r =>
          obtain ⟨l, hl, hat⟩ := last_atI (r := y :: r) (by simp)
          refine iteF ⟨_, rfl, 1, rfl, b, _, _, _, rfl, rfl, same_t s4 hb3, hat, _, rfl, l, x, rfl, rfl, _, rfl, ?_⟩
          have eo := okR_snoc (x := x) hl
          rw [← eo]
          refine ite2 (fun c => app c _ s4) (fun c => skip (by simpa using c) _ s4)
      · rintro H3 ⟨s3, hb3, a3, hD3, ha3⟩
        refine ⟨s3, a3, hD3, ?_⟩
        rw [longer_take hr']
        rw [List.length_map, List.take_length] at ha3
        exact ha3
    · rintro H2 ⟨s2, a2, hD2, ha2⟩
      rw [hlv.len, List.take_length] at ha2
      have hf2 := s2 _ _ hf
      -- found.extend(sorted(last))
      refine ⟨_, rfl, .inl ⟨rfl, _, SqL.of hf2⟩, _, rfl, ?_⟩
      dsimp only [tNil]
      refine sort_rows (SqL.of hD2) ha2 (fun r hr => ?_) fun ys p hp hy => ?_
      · have := lastP_mem (i + 1) r hr
        intro e
        rw [e] at this
        cases this
      · have nfp : fo ≠ p := ne_of_none hf2 hp
        have nDp : D ≠ p := ne_of_none hD2 hp
        have lens : acc.length + ys.length ≤ 100000 := by
          have e1 := hacc.len
          have e2 := hy.len
          have e3 := foundP_len hw i (by omega)
          have e4 := lastP_len hw (i + 1)
          have e5 : (5 : Nat) ^ (i + 1) ≤ 5 ^ 4 := Nat.pow_le_pow_right (by decide) (by omega)
          rw [sortR_len] at e2
          have e6 : (longer ws (lastP ws i)).length = (lastP ws (i + 1)).length := rfl
          omega
        have hf3 : (upd H2 p (.lst ys)) fo = some (.lst acc) := by rw [upd_ne nfp]; exact hf2
        have k1 : TK K H2 (upd (upd H2 p (.lst ys)) fo (.lst (acc ++ ys))) := (TK.new hp).trans (TK.lst hf3)
        refine ⟨fo, p, acc, ys, rfl, rfl, hf3, upd_same, Nat.le_of_lt (len_le lens), ?_⟩
        refine ⟨D, _, a2, _, _, _, rfl, Evl.Ex.mut ((sm.trans s2).trans (Evl.Ex.new hp)) f0, upd_same, ?_, nDf, ?_, ?_, ?_⟩
        · rw [upd_ne nDf.symm, upd_ne nDp]; exact hD2
        · exact sm.free hD
        · exact ((hacc.tk (TK.same s2)).tk k1).app (hy.tk k1)
        · exact ha2.tk k1
  · rintro σ H1 ⟨la, acc, lv, v4, v5, v6, rfl, sm, hf, hl, nfl, l0, hacc, hlv⟩
    have ek : ((k : Int)).toNat = k := Int.toNat_natCast k
    rw [ek] at hacc
    exact ⟨_, rfl, q fo acc H1 f0 sm hf hacc⟩
end
end Tie
namespace Tie
open PySem PySem.Spec PyProof.Rows L2
theorem encR_pl {r : List Str} (h : r.length ≤ 1000000) : Pl (encR r) := .tup (by rw [List.length_map]; exact h) fun d hd => by
  obtain ⟨x, _, rfl⟩ := List.mem_map.mp hd
  exact .str x
theorem depthAll_le : ∀ {ds : List PyData} {n : Nat}, (∀ d ∈ ds, d.depth ≤ n) → PyData.depthAll ds ≤ n
  | [], n, _ => by unfold PyData.depthAll; exact Nat.zero_le _
  | d :: ds, n, h => by
    unfold PyData.depthAll
    exact Nat.max_le.mpr ⟨h d List.mem_cons_self, depthAll_le fun x hx => h x (List.mem_cons_of_mem _ hx)⟩
abbrev six : List Str := ["", "", "@", "@#", "#", "."]
theorem six_len : ∀ y ∈ six, y.length ≤ 2 := by decide +kernel
theorem LS.new {H : Hp} {a sl p : Addr} {o : HO} (h : LS H a sl) (hp : H p = none) : LS (upd H p o) a sl :=
  h.keep (upd_ne (ne_of_none h.at.choose_spec hp)) (upd_ne (ne_of_none h.sl.choose_spec hp))
theorem LS.ups {H : Hp} {a sl p : Addr} {o : HO} (h : LS H a sl) (n1 : p ≠ a) (n2 : p ≠ sl) : LS (upd H p o) a sl := h.keep (upd_ne n1.symm) (upd_ne n2.symm)
theorem LS.same {H H' : Hp} {a sl : Addr} (h : LS H a sl) (e : Same H H') : LS H' a sl := by
  obtain ⟨ns, p, r, t, h1, h2, h3⟩ := h
  exact ⟨ns, p, r, t, e _ _ h1, e _ _ h2, h3⟩
section
variable {P : Program} {w : World} {K : PySem.W.Frag} {mg : Str → Option Value} {base : Heap}
def spLaw (K : PySem.W.Frag) : Sp := fun vs H Q _ => ∃ (a : Addr) (ns : List Int), vs = [.ref a] ∧ SqL K H a (ns.map V.int) ∧ ns.length ≤ 63 ∧ ∀ H', Q (.bl true) H'
theorem sc_law : FnScope ["script", "state", "turn", "names", "word", "degree", "due", "rows", "k"] ["script"] (defScope s_law) := ⟨rfl, rfl, rfl, by decide +kernel, rfl, by decide +kernel, by decide +kernel⟩
theorem ok_law {f fS fD fO fW fL fE fM : Addr} {fd dS dD dO dW dL dE dM : FuncData} (F : Fun K "law" "law" s_law f fd) (B : Bu mg)
    (GS : FnOk P w K mg base CX0 1 fS dS ["script"] (spStart K)) (mS : mg "_law_start" = some (.ref fS)) (kS : PySem.W.keepIn K (.ref fS) = true) (bS : Binds K dS ["script"] [])
    (GD : FnOk P w K mg base CX0 1 fD dD ["state", "most"] (spDraw K)) (mD : mg "_law_draw" = some (.ref fD)) (kD : PySem.W.keepIn K (.ref fD) = true) (bD : Binds K dD ["state", "most"] [])
    (GO : FnOk P w K mg base CX0 2 fO dO ["state", "items"] (spOne K)) (mO : mg "_law_one_of" = some (.ref fO)) (kO : PySem.W.keepIn K (.ref fO) = true) (bO : Binds K dO ["state", "items"] [])
    (GW : FnOk P w K mg base CX0 2 fW dW ["state", "many"] (spWords K)) (mW : mg "_law_words" = some (.ref fW)) (kW : PySem.W.keepIn K (.ref fW) = true) (bW : Binds K dW ["state", "many"] [])
    (GL : FnOk P w K mg base CX0 1 fL dL ["names", "rows"] (spLonger K)) (mL : mg "_law_longer" = some (.ref fL)) (kL : PySem.W.keepIn K (.ref fL) = true) (bL : Binds K dL ["names", "rows"] [])
    (GE : FnOk P w K mg base CX0 4 fE dE ["x", "y"] (spSame K 3)) (mE : mg "_law_same" = some (.ref fE)) (kE : PySem.W.keepIn K (.ref fE) = true) (bE : Binds K dE ["x", "y"] [])
    (GM : FnOk P w K mg base CX0 1 fM dM ["names", "degree"] (spMono K)) (mM : mg "monomials_of" = some (.ref fM)) (kM : PySem.W.keepIn K (.ref fM) = true) (bM : Binds K dM ["names", "degree"] []) :
    FnOk P w K mg base CX0 5 f fd ["script"] (spLaw K) := by
  have m_range := B.m_range
  have m_sorted := B.m_sorted
  have m_tuple := B.m_tuple
  refine F.ok sc_law (fun vs H Q E h => ?_) (fun cdv A outer s H vs Q E hrE h => ?_)
  · obtain ⟨a, ns, rfl, _⟩ := h
    rfl
  have hr1 := hrE.mono (show 1 ≤ 4 by decide)
  have hr2 := hrE.mono (show 2 ≤ 4 by decide)
  obtain ⟨sa, ns, rfl, hS, h63, q⟩ := h
  refine ⟨_, (pss_cons (ps_set (i := 1) sc_law.nd rfl (Or.inl rfl) (pe_call GS hr1 rfl mS kS bS .nil pass0 (pa_cons (pv 0) pa_nil)))
    (pss_cons (ps_for PassesOwn.never rfl (pi_range1 rfl m_range (pa_cons pe_int pa_nil)) (pg_name (i := 2) sc_law.nd rfl (Or.inl rfl))
    (pss_cons (ps_set (i := 3) sc_law.nd rfl (Or.inl rfl) (pe_lst pa_nil))
    (pss_cons (ps_for PassesOwn.never rfl (pi_list (pe_call GW hr2 rfl mW kW bW .nil pass0 (pa_cons (pv 1) (pa_cons (pe_call GD hr1 rfl mD kD bD .nil pass0 (pa_cons (pv 1) (pa_cons pe_int pa_nil))) pa_nil)))) (pg_name (i := 4) sc_law.nd rfl (Or.inl rfl))
    (pss_one (ps_expr (pe_bm PySem.F.plainAttrs_list PySem.F.slot_list_append PySem.F.type_list_append mt_append (pv 3) (pa_cons (pe_op op_add_str (pe_call GO hr2 rfl mO kO bO .nil pass0 (pa_cons (pv 1) (pa_cons (pe_lst (pa_cons pe_str (pa_cons pe_str (pa_cons pe_str (pa_cons pe_str (pa_cons pe_str (pa_cons pe_str pa_nil))))))) pa_nil))) (pv 4)) pa_nil)))))
    (pss_cons (ps_set (i := 3) sc_law.nd rfl (Or.inl rfl) (pe_callB cr_sortedS (by rfl) m_sorted boot_sorted (pa_cons (pv 3) pa_nil)))
    (pss_cons (ps_set (i := 5) sc_law.nd rfl (Or.inl rfl) (pe_call GD hr1 rfl mD kD bD .nil pass0 (pa_cons (pv 1) (pa_cons pe_int pa_nil))))
    (pss_cons (ps_set (i := 6) sc_law.nd rfl (Or.inl rfl) (pe_lst (pa_cons (pe_tup pa_nil) pa_nil)))
    (pss_cons (ps_set (i := 7) sc_law.nd rfl (Or.inl rfl) (pe_lst (pa_cons (pe_tup pa_nil) pa_nil)))
    (pss_cons (ps_for PassesOwn.never rfl (pi_range1 rfl m_range (pa_cons (pv 5) pa_nil)) (pg_name (i := 8) sc_law.nd rfl (Or.inl rfl))
    (pss_cons (ps_set (i := 7) sc_law.nd rfl (Or.inl rfl) (pe_call GL hr1 rfl mL kL bL .nil pass0 (pa_cons (pv 3) (pa_cons (pv 7) pa_nil))))
    (pss_one (ps_set (i := 6) sc_law.nd rfl (Or.inl rfl) (pe_op op_cat (pv 6) (pv 7))))))
    (pss_one (ps_if (pt_not (pt_val (pe_call GE hrE rfl mE kE bE .nil pass0 (pa_cons (pe_callTy cl_tuple_of (by rfl) m_tuple boot_tuple (pa_cons (pe_call GM hr1 rfl mM kM bM .nil pass0 (pa_cons (pe_callTy cl_tuple_of (by rfl) m_tuple boot_tuple (pa_cons (pv 3) pa_nil)) (pa_cons (pv 5) pa_nil))) pa_nil)) (pa_cons (pe_callTy cl_tuple_of (by rfl) m_tuple boot_tuple (pa_cons (pv 6) pa_nil)) pa_nil))))) (pss_one (ps_ret pe_bl)) pss_nil))))))))))
    (pss_one (ps_ret pe_bl)))), ?_⟩
  refine ⟨_, rfl, sa, ns, rfl, hS, h63, fun st sl H0 _ _ _ L0 => ?_⟩
  refine ⟨4, rfl, by decide, by decide, for_range (lo := 0) (n := 4) (fun i σ H1 => ∃ v2 v3 v4 v5 v6 v7 v8, σ = [some (.ref sa), some (.ref st), v2, v3, v4, v5, v6, v7, v8] ∧ LS H1 st sl)
    ⟨_, _, _, _, _, _, _, rfl, L0⟩ ?_ ?_⟩
  · rintro i σ H1 hi ⟨v2, v3, v4, v5, v6, v7, v8, rfl, L1⟩
    -- names = []
    refine ⟨Nat.zero_le _, fun nm hnm => ?_⟩
    have L2' := L1.new (o := .lst []) hnm
    have nms : nm ≠ st := (ne_of_none L1.at.choose_spec hnm).symm
    have nml : nm ≠ sl := (ne_of_none L1.sl.choose_spec hnm).symm
    -- for word in _law_words(state, _law_draw(state, 6))
    refine ⟨_, rfl, _, rfl, st, sl, 6, rfl, L2', by decide, by decide, fun m H3 m0 m1 b3 L3 => ?_⟩
    refine ⟨st, sl, m, rfl, L3, m0, by omega, fun wl ws H4 hwl x4 L4 e4 hwm hws => ?_⟩
    have n3 : H3 nm = some (.lst []) := (b3 nm nms).trans upd_same
    have n4 : H4 nm = some (.lst []) := x4 nm _ nms n3
    have wnm : wl ≠ nm := (ne_of_none n3 hwl).symm
    have wst : wl ≠ st := (ne_of_none L3.at.choose_spec hwl).symm
    have wsl : wl ≠ sl := (ne_of_none L3.sl.choose_spec hwl).symm
    have hm5 : ws.length ≤ 5 := by omega
    refine ⟨wl, rfl, ⟨_, SqL.of e4⟩, for_list (K := K) (a := wl) (xs := ws.map V.str) (fun j σ H5 => ∃ v4 ns, σ = [some (.ref sa), some (.ref st), some (.int (0 + (i : Int))), some (.ref nm), v4, v5, v6, v7, v8] ∧ LS H5 st sl ∧ H5 wl = some (.lst (ws.map V.str)) ∧ H5 nm = some (.lst ((ns : List Str).map V.str)) ∧ ns.length = j)
      ⟨v4, [], rfl, L4, e4, n4, rfl⟩ (fun j σ H5 _ ⟨_, _, _, _, h, _⟩ => SqL.of h) ?_ ?_⟩
    · rintro j v σ H5 hj ⟨v4, ns, rfl, L5, e5, n5, hns⟩
      have hj2 : j < ws.length := by
        have := (List.getElem?_eq_some_iff.mp hj).1
        rw [List.length_map] at this
        exact this
      obtain ⟨x, hx, rfl⟩ : ∃ x, x ∈ ws ∧ v = V.str x := by
        obtain ⟨x, hx, e⟩ := List.mem_map.mp (List.mem_of_getElem? hj)
        exact ⟨x, hx, e.symm⟩
      refine ⟨_, rfl, .inl ⟨rfl, _, SqL.of n5⟩, _, rfl, (by show 6 ≤ sizeLine; decide), fun dl hdl => ?_⟩
      have dst : dl ≠ st := (ne_of_none L5.at.choose_spec hdl).symm
      have dnm : nm ≠ dl := ne_of_none n5 hdl
      have dwl : wl ≠ dl := ne_of_none e5 hdl
      refine ⟨st, sl, dl, six.map V.str, rfl, L5.new hdl, dst, SqL.of upd_same, by decide, by decide, fun jj v H6 hv b6 L6 => ?_⟩
      obtain ⟨y, hy, rfl⟩ : ∃ y, y ∈ six ∧ v = V.str y := by
        obtain ⟨y, hy, e⟩ := List.mem_map.mp (List.mem_of_getElem? hv)
        exact ⟨y, hy, e.symm⟩
      have ly := six_len y hy
      have lx := hws x hx
      have n6 : H6 nm = some (.lst (ns.map V.str)) := (b6 nm nms).trans ((upd_ne dnm).trans n5)
      have e6 : H6 wl = some (.lst (ws.map V.str)) := (b6 wl wst).trans ((upd_ne dwl).trans e5)
      refine ⟨_, rfl, y, x, rfl, rfl, Nat.le_of_lt (len_le (by omega)), nm, _, _, rfl, rfl, n6, len_le (by rw [List.length_map]; omega), ?_⟩
      refine ⟨_, ns ++ [y ++ x], rfl, L6.ups nms nml, (upd_ne wnm).trans e6, ?_, by rw [List.length_append, hns]; rfl⟩
      rw [upd_same, List.map_append]
      rfl
    · rintro σ H5 ⟨v4, ns, rfl, L5, e5, n5, hns⟩
      rw [List.length_map] at hns
      -- names = sorted(names)
      refine ⟨_, rfl, nm, ns, rfl, SqL.of n5, by omega, fun ns p hp _ hp0 => ?_⟩
      have hn5 : ns.length ≤ 5 := by rw [hp.length_eq]; omega
      have L6 := L5.new (o := .lst (ns.map V.str)) hp0
      have pst : p ≠ st := (ne_of_none L5.at.choose_spec hp0).symm
      -- degree
      refine ⟨_, rfl, st, sl, 5, rfl, L6, by decide, by decide, fun d H7 d0 d1 b7 L7 => ?_⟩
      have n7 : H7 p = some (.lst (ns.map V.str)) := (b7 p pst).trans upd_same
      refine ⟨Nat.zero_le _, fun e1 ne1 => ⟨by show 1 ≤ sizeLine; decide, fun du nd => ⟨Nat.zero_le _, fun e2 ne2 => ⟨by show 1 ≤ sizeLine; decide, fun ro nr => ?_⟩⟩⟩⟩
      have x1 : Same H7 (upd H7 e1 (.tup [])) := Evl.Ex.new ne1
      have x2 := x1.trans (Evl.Ex.new (o := .lst [.ref e1]) nd)
      have x3 := x2.trans (Evl.Ex.new (o := .tup []) ne2)
      have x4 := x3.trans (Evl.Ex.new (o := .lst [.ref e2]) nr)
      have hdu : (upd (upd (upd (upd H7 e1 (.tup [])) du (.lst [.ref e1])) e2 (.tup [])) ro (.lst [.ref e2])) du = some (.lst [.ref e1]) :=
        Evl.Ex.new nr _ _ (Evl.Ex.new ne2 _ _ upd_same)
      have r1 : SqT K (upd (upd (upd (upd H7 e1 (.tup [])) du (.lst [.ref e1])) e2 (.tup [])) ro (.lst [.ref e2])) e1 [] :=
        same_t (Evl.Ex.new nr) (same_t (Evl.Ex.new ne2) (same_t (Evl.Ex.new nd) (SqT.of upd_same)))
      have r2 : SqT K (upd (upd (upd (upd H7 e1 (.tup [])) du (.lst [.ref e1])) e2 (.tup [])) ro (.lst [.ref e2])) e2 [] :=
        same_t (Evl.Ex.new nr) (SqT.of upd_same)
      refine ⟨_, rfl, d, rfl, by omega, by omega, for_range (lo := 0) (n := d.toNat) (fun j σ H8 => ∃ du ro dv rv v8, σ = [some (.ref sa), some (.ref st), some (.int (0 + (i : Int))), some (.ref p), v4, some (.int d), some (.ref du), some (.ref ro), v8] ∧ LS H8 st sl ∧ H8 p = some (.lst (ns.map V.str)) ∧ H8 du = some (.lst dv) ∧ Rows K H8 dv (dueL ns j) ∧ H8 ro = some (.lst rv) ∧ Rows K H8 rv (rowsL ns j))
        ⟨du, ro, _, _, v8, rfl, L7.same x4, x4 _ _ n7, hdu, .cons ⟨e1, rfl, r1⟩ .nil, upd_same, .cons ⟨e2, rfl, r2⟩ .nil⟩ ?_ ?_⟩
      · rintro j σ H8 hj ⟨du, ro, dv, rv, v8, rfl, L8, n8, hdu, hdv, hro, hrv⟩
        have hlen := lastP_len hn5 j
        have h2 : (5 : Nat) ^ j ≤ 5 ^ 4 := Nat.pow_le_pow_right (by decide) (by omega)
        have hrl : (rowsL ns j).length ≤ 1000 := by rw [(rows_perm ns j).length_eq]; omega
        refine ⟨_, rfl, _, rfl, p, ro, ns, rv, rowsL ns j, rfl, SqL.of n8, SqL.of hro, hrv, hn5, hrl, fun r hr => (by rw [rowsL_mem j r hr]; omega), fun pn ys H9 hpn s9 e9 hy => ?_⟩
        have d9 := s9 _ _ hdu
        have dl : dv.length ≤ 10000 := by
          have e := hdv.len
          rw [due_eq] at e
          have := foundP_len hn5 j (by omega)
          omega
        have yl : ys.length ≤ 10000 := by
          have e := hy.len
          rw [sortR_len] at e
          have := longer_len hn5 (rowsL ns j)
          omega
        refine ⟨_, rfl, _, rfl, du, pn, dv, ys, rfl, rfl, d9, e9, Nat.le_of_lt (len_le (by omega)), fun c hc => ?_⟩
        have s10 : Same H9 (upd H9 c (.lst (dv ++ ys))) := Evl.Ex.new hc
        exact ⟨c, pn, _, ys, _, rfl, (L8.same s9).same s10, s10 _ _ (s9 _ _ n8), upd_same, (hdv.tk (TK.same (s9.trans s10))).app (hy.tk (TK.same s10)), s10 _ _ e9, hy.tk (TK.same s10)⟩
      · rintro σ H8 ⟨du, ro, dv, rv, v8, rfl, L8, n8, hdu, hdv, hro, hrv⟩
        -- the two lists are one
        refine ⟨_, rfl, p, _, rfl, .inl ⟨SqL.of n8, fun t1 ht1 => ?_⟩⟩
        have s1 : Same H8 (upd H8 t1 (.tup (ns.map V.str))) := Evl.Ex.new ht1
        refine ⟨_, rfl, t1, ns, d.toNat, (by rw [Int.toNat_of_nonneg d0]; rfl), SqT.of upd_same, hn5, by omega, fun pm ys H9 hpm s9 e9 hy => ?_⟩
        refine ⟨pm, ys, rfl, .inl ⟨SqL.of e9, fun t2 ht2 => ?_⟩⟩
        have s10 : Same H9 (upd H9 t2 (.tup ys)) := Evl.Ex.new ht2
        refine ⟨_, rfl, du, dv, rfl, .inl ⟨SqL.of (s10 _ _ (s9 _ _ (s1 _ _ hdu))), fun t3 ht3 => ?_⟩⟩
        have s11 : Same (upd H9 t2 (.tup ys)) (upd (upd H9 t2 (.tup ys)) t3 (.tup dv)) := Evl.Ex.new ht3
        have fl := foundP_len hn5 d.toNat (by omega)
        refine ⟨.ref t2, .ref t3, .tuple ((foundP ns d.toNat).map encR), rfl, .tup (SqT.of (s11 _ _ upd_same)) (hy.tk (TK.same (s10.trans s11))).dp, ?_, ?_, ?_, fun H12 s12 => ⟨true, rfl, iteF ?_⟩⟩
        · rw [← due_eq]
          exact .tup (SqT.of upd_same) (hdv.tk (TK.same (s1.trans (s9.trans (s10.trans s11))))).dp
        · refine .tup (by rw [List.length_map]; omega) fun e he => ?_
          obtain ⟨r, hr, rfl⟩ := List.mem_map.mp he
          exact encR_pl (by have := foundP_mem d.toNat r hr; omega)
        · rw [PyData.depth]
          have := depthAll_le (ds := (foundP ns d.toNat).map encR) (n := 1) fun e he => by
            obtain ⟨r, hr, rfl⟩ := List.mem_map.mp he
            rw [encR_depth]; exact Nat.le_refl _
          omega
        · exact ⟨_, _, _, _, _, _, _, rfl, ((L8.same s1).same (s9.trans (s10.trans s11))).same s12⟩
  · rintro σ H1 ⟨v2, v3, v4, v5, v6, v7, v8, rfl, L1⟩
    exact q H1
end
end Tie
namespace Tie
open PySem PySem.Spec PyProof.Rows L2
theorem all_mk {l : PySem.W.OpenLaw} {w : World} {K : PySem.W.Frag} {h : Heap} {mg : Str → Option Value} {fa : Addr} (X : K.In h) (G : h.Ns mainGlobals mg) (hfa : mg "law" = some (.ref fa))
    {f1 f2 f3 f4 f5 f6 f7 f8 f9 : Addr} {od1 an1 od2 an2 od3 an3 od4 an4 od5 an5 od6 an6 od7 an7 od8 an8 od9 an9 : Option Addr} {sl1 sl2 sl3 sl4 sl5 sl6 sl7 sl8 sl9 : Array (Option Value)} {oc1 kV1 dc1 pm1 cd1 ct1 oc2 kV2 dc2 pm2 cd2 ct2 oc3 kV3 dc3 pm3 cd3 ct3 oc4 kV4 dc4 pm4 cd4 ct4 oc5 kV5 dc5 pm5 cd5 ct5 oc6 kV6 dc6 pm6 cd6 ct6 oc7 kV7 dc7 pm7 cd7 ct7 oc8 kV8 dc8 pm8 cd8 ct8 oc9 kV9 dc9 pm9 cd9 ct9 : Value}
    (a1 : PySem.W.nsIn K mainGlobals "monomials_of" = some (some (.ref f1))) (l1 : K.lookup f1 = some ⟨oc1, od1, .func (PySem.W.fnOf "monomials_of" "monomials_of" (defArgs s_monomials_of) (defBody s_monomials_of) (defScope s_monomials_of) .none kV1 dc1 pm1 an1 cd1 ct1), sl1⟩) (c1 : PySem.W.codeIn K cd1 "monomials_of" = true) (k1 : PySem.W.keepIn K (.ref f1) = true)
    (a2 : PySem.W.nsIn K mainGlobals "_law_start" = some (some (.ref f2))) (l2 : K.lookup f2 = some ⟨oc2, od2, .func (PySem.W.fnOf "_law_start" "_law_start" (defArgs s_law_start) (defBody s_law_start) (defScope s_law_start) .none kV2 dc2 pm2 an2 cd2 ct2), sl2⟩) (c2 : PySem.W.codeIn K cd2 "_law_start" = true) (k2 : PySem.W.keepIn K (.ref f2) = true)
    (a3 : PySem.W.nsIn K mainGlobals "_law_draw" = some (some (.ref f3))) (l3 : K.lookup f3 = some ⟨oc3, od3, .func (PySem.W.fnOf "_law_draw" "_law_draw" (defArgs s_law_draw) (defBody s_law_draw) (defScope s_law_draw) .none kV3 dc3 pm3 an3 cd3 ct3), sl3⟩) (c3 : PySem.W.codeIn K cd3 "_law_draw" = true) (k3 : PySem.W.keepIn K (.ref f3) = true)
    (a4 : PySem.W.nsIn K mainGlobals "_law_one_of" = some (some (.ref f4))) (l4 : K.lookup f4 = some ⟨oc4, od4, .func (PySem.W.fnOf "_law_one_of" "_law_one_of" (defArgs s_law_one_of) (defBody s_law_one_of) (defScope s_law_one_of) .none kV4 dc4 pm4 an4 cd4 ct4), sl4⟩) (c4 : PySem.W.codeIn K cd4 "_law_one_of" = true) (k4 : PySem.W.keepIn K (.ref f4) = true)
    (a5 : PySem.W.nsIn K mainGlobals "_law_words" = some (some (.ref f5))) (l5 : K.lookup f5 = some ⟨oc5, od5, .func (PySem.W.fnOf "_law_words" "_law_words" (defArgs s_law_words) (defBody s_law_words) (defScope s_law_words) .none kV5 dc5 pm5 an5 cd5 ct5), sl5⟩) (c5 : PySem.W.codeIn K cd5 "_law_words" = true) (k5 : PySem.W.keepIn K (.ref f5) = true)
    (a6 : PySem.W.nsIn K mainGlobals "_law_is_int" = some (some (.ref f6))) (l6 : K.lookup f6 = some ⟨oc6, od6, .func (PySem.W.fnOf "_law_is_int" "_law_is_int" (defArgs s_law_is_int) (defBody s_law_is_int) (defScope s_law_is_int) .none kV6 dc6 pm6 an6 cd6 ct6), sl6⟩) (c6 : PySem.W.codeIn K cd6 "_law_is_int" = true) (k6 : PySem.W.keepIn K (.ref f6) = true)
    (a7 : PySem.W.nsIn K mainGlobals "_law_same" = some (some (.ref f7))) (l7 : K.lookup f7 = some ⟨oc7, od7, .func (PySem.W.fnOf "_law_same" "_law_same" (defArgs s_law_same) (defBody s_law_same) (defScope s_law_same) .none kV7 dc7 pm7 an7 cd7 ct7), sl7⟩) (c7 : PySem.W.codeIn K cd7 "_law_same" = true) (k7 : PySem.W.keepIn K (.ref f7) = true)
    (a8 : PySem.W.nsIn K mainGlobals "_law_longer" = some (some (.ref f8))) (l8 : K.lookup f8 = some ⟨oc8, od8, .func (PySem.W.fnOf "_law_longer" "_law_longer" (defArgs s_law_longer) (defBody s_law_longer) (defScope s_law_longer) .none kV8 dc8 pm8 an8 cd8 ct8), sl8⟩) (c8 : PySem.W.codeIn K cd8 "_law_longer" = true) (k8 : PySem.W.keepIn K (.ref f8) = true)
    (a9 : PySem.W.nsIn K mainGlobals "law" = some (some (.ref f9))) (l9 : K.lookup f9 = some ⟨oc9, od9, .func (PySem.W.fnOf "law" "law" (defArgs s_law) (defBody s_law) (defScope s_law) .none kV9 dc9 pm9 an9 cd9 ct9), sl9⟩) (c9 : PySem.W.codeIn K cd9 "law" = true) (k9 : PySem.W.keepIn K (.ref f9) = true)
    (z_range : PySem.W.nsIn K mainGlobals "range" = some none)
    (z_len : PySem.W.nsIn K mainGlobals "len" = some none)
    (z_int : PySem.W.nsIn K mainGlobals "int" = some none)
    (z_abs : PySem.W.nsIn K mainGlobals "abs" = some none)
    (z_list : PySem.W.nsIn K mainGlobals "list" = some none)
    (z_tuple : PySem.W.nsIn K mainGlobals "tuple" = some none)
    (z_str : PySem.W.nsIn K mainGlobals "str" = some none)
    (z_bool : PySem.W.nsIn K mainGlobals "bool" = some none)
    (z_all : PySem.W.nsIn K mainGlobals "all" = some none)
    (z_sorted : PySem.W.nsIn K mainGlobals "sorted" = some none)
    (z_isinstance : PySem.W.nsIn K mainGlobals "isinstance" = some none)
    : ∃ fd : FuncData, (∀ (s : Shared) (v : Value), BindsTo s fd ⟨[v], []⟩ [("script", v)]) ∧ ∀ base : Heap, K.In base → base.Ns mainGlobals mg → FnOk l.prog w K mg base CX0 5 fa fd ["script"] (spLaw K) := by
  have e := hfa.symm.trans (PySem.W.mg_of X G a9)
  cases e
  have Bz : Bu mg := ⟨PySem.W.mg_none_of X G z_range, PySem.W.mg_none_of X G z_len, PySem.W.mg_none_of X G z_int, PySem.W.mg_none_of X G z_abs, PySem.W.mg_none_of X G z_list, PySem.W.mg_none_of X G z_tuple, PySem.W.mg_none_of X G z_str, PySem.W.mg_none_of X G z_bool, PySem.W.mg_none_of X G z_all, PySem.W.mg_none_of X G z_sorted, PySem.W.mg_none_of X G z_isinstance⟩
  have F1 := fun_mk (st := s_monomials_of) l1 c1 k1
  have m1 := PySem.W.mg_of X G a1
  have b1 := F1.binds (ps := ["names", "degree"]) fun _ _ _ _ _ _ us hl => match us, hl with | [_, _], _ => rfl
  have F2 := fun_mk (st := s_law_start) l2 c2 k2
  have m2 := PySem.W.mg_of X G a2
  have b2 := F2.binds (ps := ["script"]) fun _ _ _ _ _ _ us hl => match us, hl with | [_], _ => rfl
  have F3 := fun_mk (st := s_law_draw) l3 c3 k3
  have m3 := PySem.W.mg_of X G a3
  have b3 := F3.binds (ps := ["state", "most"]) fun _ _ _ _ _ _ us hl => match us, hl with | [_, _], _ => rfl
  have F4 := fun_mk (st := s_law_one_of) l4 c4 k4
  have m4 := PySem.W.mg_of X G a4
  have b4 := F4.binds (ps := ["state", "items"]) fun _ _ _ _ _ _ us hl => match us, hl with | [_, _], _ => rfl
  have F5 := fun_mk (st := s_law_words) l5 c5 k5
  have m5 := PySem.W.mg_of X G a5
  have b5 := F5.binds (ps := ["state", "many"]) fun _ _ _ _ _ _ us hl => match us, hl with | [_, _], _ => rfl
  have F6 := fun_mk (st := s_law_is_int) l6 c6 k6
  have m6 := PySem.W.mg_of X G a6
  have b6 := F6.binds (ps := ["x"]) fun _ _ _ _ _ _ us hl => match us, hl with | [_], _ => rfl
  have F7 := fun_mk (st := s_law_same) l7 c7 k7
  have m7 := PySem.W.mg_of X G a7
  have b7 := F7.binds (ps := ["x", "y"]) fun _ _ _ _ _ _ us hl => match us, hl with | [_, _], _ => rfl
  have F8 := fun_mk (st := s_law_longer) l8 c8 k8
  have m8 := PySem.W.mg_of X G a8
  have b8 := F8.binds (ps := ["names", "rows"]) fun _ _ _ _ _ _ us hl => match us, hl with | [_, _], _ => rfl
  have F9 := fun_mk (st := s_law) l9 c9 k9
  have m9 := PySem.W.mg_of X G a9
  refine ⟨PySem.W.fnOf "law" "law" (defArgs s_law) (defBody s_law) (defScope s_law) .none kV9 dc9 pm9 an9 cd9 ct9, fun s v => .of_eq rfl, fun base _ _ => ?_⟩
  have GD : FnOk l.prog w K mg base CX0 1 _ _ _ (spDraw K) := ok_draw F3 Bz
  have GO : FnOk l.prog w K mg base CX0 2 _ _ _ (spOne K) := ok_one F4 Bz GD m3 k3 b3
  have GW : FnOk l.prog w K mg base CX0 2 _ _ _ (spWords K) := ok_words F5 Bz GD m3 k3 b3
  have GI : FnOk l.prog w K mg base CX0 1 _ _ _ (spIsInt K) := ok_is_int F6 Bz
  have GE : FnOk l.prog w K mg base CX0 4 _ _ _ (spSame K 3) := ok_same F7 Bz GI m6 k6 b6 (ok_same F7 Bz GI m6 k6 b6 (ok_same F7 Bz GI m6 k6 b6 same0 m7 b7) m7 b7) m7 b7
  exact ok_law F9 Bz (ok_start F2 Bz) m2 k2 b2 GD m3 k3 b3 GO m4 k4 b4 GW m5 k5 b5 (ok_longer F8 Bz) m8 k8 b8 GE m7 k7 b7 (ok_mono F1 Bz) m1 k1 b1
theorem walk {l : PySem.W.OpenLaw} {q : Program} {loose : List Str} {XP : (Str → Option Value) → Heap → Prop} {YP : World → Heap → Prop} {d : DefRec} {K : Params → PySem.W.Frag} (hn : l.most = some 63) (hdf : d.params.defaults = [])
    (hY : ∀ (w : World) (h : Heap), YP w h → (K w.params).In h)
    (F : ∀ (w : World) (mg : Str → Option Value) (fa : Addr) (h : Heap), (K w.params).In h → h.Ns mainGlobals mg → mg d.name = some (.ref fa) →
      ∃ fd : FuncData, (∀ (s : Shared) (u : Value), BindsTo s fd ⟨[u], []⟩ [("script", u)]) ∧ ∀ base : Heap, (K w.params).In base → base.Ns mainGlobals mg → FnOk l.prog w (K w.params) mg base CX0 5 fa fd ["script"] (spLaw (K w.params))) :
    PySem.W.WalkO q loose XP YP l.row.toRowW d [] (fun f vs => PySem.call f vs) :=
  L2.walk_of (n := 63) (k := 5) (x := "script") (CX := fun _ => CX0) (sp := fun w => spLaw (K w.params)) hn (by decide) hdf ⟨rfl, by decide, by decide⟩ hY F (fun _ _ a ns hl _ hS => ⟨a, ns, rfl, hS, hl, fun _ => rfl⟩) fun _ _ _ _ _ z => z
end Tie
open PySem PySem.W PyProof.Rows
set_option maxHeartbeats 0 in
theorem PySem.Challenge.cw_tiestold_k00_monomials_holds : PySem.Challenge.rw_tiestold_k00_monomials.Holds := by
  w_on; o_law; k_head; (case hw => w_witness2)
  k_fill
  refine Tie.walk (l := PySem.Challenge.rw_tiestold_k00_monomials) rfl rfl (fun w h Y => PySem.W.kIn_of Y) ?F
  case F =>
    intro w mg fa h KX G hmg
    refine' Tie.all_mk KX G hmg ?a1 ?l1 ?c1 ?k1 ?a2 ?l2 ?c2 ?k2 ?a3 ?l3 ?c3 ?k3 ?a4 ?l4 ?c4 ?k4 ?a5 ?l5 ?c5 ?k5 ?a6 ?l6 ?c6 ?k6 ?a7 ?l7 ?c7 ?k7 ?a8 ?l8 ?c8 ?k8 ?a9 ?l9 ?c9 ?k9 ?z_range ?z_len ?z_int ?z_abs ?z_list ?z_tuple ?z_str ?z_bool ?z_all ?z_sorted ?z_isinstance
    (case a1 => k_is); (case l1 => k_is); (case c1 => k_is); (case k1 => k_is)
    (case a2 => k_is); (case l2 => k_is); (case c2 => k_is); (case k2 => k_is)
    (case a3 => k_is); (case l3 => k_is); (case c3 => k_is); (case k3 => k_is)
    (case a4 => k_is); (case l4 => k_is); (case c4 => k_is); (case k4 => k_is)
    (case a5 => k_is); (case l5 => k_is); (case c5 => k_is); (case k5 => k_is)
    (case a6 => k_is); (case l6 => k_is); (case c6 => k_is); (case k6 => k_is)
    (case a7 => k_is); (case l7 => k_is); (case c7 => k_is); (case k7 => k_is)
    (case a8 => k_is); (case l8 => k_is); (case c8 => k_is); (case k8 => k_is)
    (case a9 => k_is); (case l9 => k_is); (case c9 => k_is); (case k9 => k_is)
    (case z_range => k_is)
    (case z_len => k_is)
    (case z_int => k_is)
    (case z_abs => k_is)
    (case z_list => k_is)
    (case z_tuple => k_is)
    (case z_str => k_is)
    (case z_bool => k_is)
    (case z_all => k_is)
    (case z_sorted => k_is)
    (case z_isinstance => k_is)
