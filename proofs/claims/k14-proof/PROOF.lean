import PyProof.Rows.All
import Wide.All
import OpenK.AllK
import Wide.FinOn
import PyProof.StrOps2
import PyProof.Rows.RuleB_pow
import HandS.ForMost
import HandS.ForExc
import HandS.IsInst
import HandS.RevRange
import HandS.Wide
import HandS.Style
import HandS.Codes
import HandS.Flow
import HandS.Steps
import HandS.ExcCtx
import HandS.HotCalls
import HandS.ExcIs
import PyProof.SumWalkG
import PyProof.WalkInts
import PyProof.Walks
import HandS.Hot
import KE.LtSeq
import HandS.SortInts
import HandS.DeepEq
import HandS.ListEq
import PySem.Challenge.RW_textwrapper_k14_whole_page_kept
set_option Elab.async false
set_option linter.all false
set_option maxRecDepth 100000
set_option maxHeartbeats 4000000
namespace Tw
open PySem PySem.Spec PyProof.Rows L2

/-! ### texts as lists of codes -/
def tx (l : List Nat) : Str := ⟨l.toArray⟩
abbrev vt (l : List Nat) : V := .str (tx l)
abbrev vts (ws : List (List Nat)) : List V := ws.map vt
abbrev vis (ns : List Int) : List V := ns.map V.int
theorem tx_inj {a b : List Nat} (h : tx a = tx b) : a = b := by
  have h2 := congrArg (fun s => s.cps.toList) h
  simpa [tx] using h2
theorem vt_inj {a b : List Nat} : vt a = vt b ↔ a = b :=
  ⟨fun h => tx_inj (V.str.inj h), fun h => by rw [h]⟩
theorem tx_app (a b : List Nat) : tx a ++ tx b = tx (a ++ b) := by
  show (⟨a.toArray ++ b.toArray⟩ : Str) = ⟨(a ++ b).toArray⟩
  simp
theorem tx_len (a : List Nat) : (tx a).length = a.length := by
  show a.toArray.size = _
  simp
theorem tx_list (a : List Nat) : (tx a).cps.toList = a := by
  show a.toArray.toList = a
  simp
theorem tx_size (a : List Nat) : (tx a).cps.size = a.length := by
  show a.toArray.size = _
  simp
theorem tx_get (a : List Nat) (i : Nat) : (tx a).cps[i]? = a[i]? := by
  show a.toArray[i]? = _
  simp
theorem tx_sign (c : Nat) : (⟨#[c]⟩ : Str) = tx [c] := rfl
theorem str_tx (s : Str) : s = tx s.cps.toList := by
  obtain ⟨l⟩ := s
  rfl
theorem vts_inj {a b : List (List Nat)} (h : vts a = vts b) : a = b :=
  (List.map_inj_right (fun x y e => vt_inj.mp e)).mp h
theorem vis_inj {a b : List Int} (h : vis a = vis b) : a = b :=
  (List.map_inj_right (fun x y e => V.int.inj e)).mp h
theorem dec_vt {a b : List Nat} : decide (vt a = vt b) = decide (a = b) := by
  by_cases h : a = b
  · rw [decide_eq_true h, decide_eq_true (vt_inj.mpr h)]
  · rw [decide_eq_false h, decide_eq_false (fun e => h (vt_inj.mp e))]
theorem dec_vi {a b : Int} : decide (V.int a = V.int b) = decide (a = b) := by
  by_cases h : a = b
  · rw [decide_eq_true h, decide_eq_true (by rw [h])]
  · rw [decide_eq_false h, decide_eq_false (fun e => h (V.int.inj e))]

/-! ### heaps -/
theorem _root_.L2.Same.new {H H1 : Hp} {p : Addr} {o : HO} (s : Same H H1) (n : H1 p = none) : Same H (upd H1 p o) := fun b x e => by
  rw [upd_ne (ne_of_none (s b x e) n)]
  exact s b x e
/-- a store to what was made behind H -/
theorem _root_.L2.Same.put {H H1 : Hp} {p : Addr} {o : HO} (s : Same H H1) (n : H p = none) : Same H (upd H1 p o) := fun b x e => by
  rw [upd_ne (ne_of_none e n)]
  exact s b x e
theorem kept {H : Hp} {p q : Addr} {x o : HO} (h : H q = some x) (n : H p = none) : upd H p o q = some x := by
  rw [upd_ne (ne_of_none h n)]
  exact h
theorem _root_.L2.Same.seqT {K : PySem.W.Frag} {H H' : Hp} {a : Addr} {xs : List V} (e : Same H H') (h : SqT K H a xs) : SqT K H' a xs := by
  rcases h with (h | ⟨o, h⟩) | h
  · exact .inl (.inl (e _ _ h))
  · exact .inl (.inr ⟨o, e _ _ h⟩)
  · exact .inr h

/-! ### the built-in names that the text does not bind -/
structure Bts (mg : Str → Option Value) : Prop where
  m_len : mg "len" = none
  m_range : mg "range" = none
  m_max : mg "max" = none
  m_sum : mg "sum" = none
  m_int : mg "int" = none
  m_bool : mg "bool" = none
  m_str : mg "str" = none
  m_list : mg "list" = none
  m_isinstance : mg "isinstance" = none
  m_sorted : mg "sorted" = none
  m_reversed : mg "reversed" = none
  m_ValueError : mg "ValueError" = none

/-! ### a def of the text -/
structure At (K : PySem.W.Frag) (mg : Str → Option Value) (x : Str) (ps : List Str) (st : Stmt) : Prop where
  ex : ∃ f fd, mg x = some (.ref f) ∧ Fun K x x st f fd ∧ Binds K fd ps []
structure Ok (P : Program) (w : World) (K : PySem.W.Frag) (mg : Str → Option Value) (base : Heap) (CX : CXT) (k : Nat) (x : Str) (ps : List Str) (sp : Sp) : Prop where
  ex : ∃ f fd, mg x = some (.ref f) ∧ PySem.W.keepIn K (.ref f) = true ∧ Binds K fd ps [] ∧ FnOk P w K mg base CX k f fd ps sp
section
variable {P : Program} {w : World} {K : PySem.W.Frag} {mg : Str → Option Value} {base : Heap}
theorem At.ok {x : Str} {ps N : List Str} {st : Stmt} {k : Nat} {sp : Sp} (A : At K mg x ps st) (S : FnScope N ps (defScope st))
    (len : ∀ vs H Q E, sp vs H Q E → vs.length = ps.length)
    (hbody : ∀ (f cdv : _) (A : Around) (outer : List Env) (s : Shared) (H : Hp) (vs : List V) (Q : VK) (E : XK),
      Room k (A.deeper (envOfC x (defScope st) s.heap.objs.size f cdv)) → sp vs H Q E →
      ∃ t, PSs (cxOf CX0 P w K mg base N x (defScope st) f cdv A outer s H E).nox (defBody st) t ∧
        t { nx := fun _ H' => Q .non H', rt := Q } (start N vs) H) :
    Ok P w K mg base CX0 (k + 1) x ps sp := by
  obtain ⟨f, fd, g, F, b⟩ := A.ex
  exact ⟨f, fd, g, F.kp, b, F.ok S len (hbody f)⟩
/-- a call of it -/
theorem pe_cd {X : Cx} {CX : CXT} {k : Nat} {x : Str} {ps : List Str} {sp : Sp} {E : XK} {e : Expr} {es : List Expr} {t : TA} {p pos : Pos}
    (G : Ok X.prog X.w X.K X.mg X.base CX k x ps sp) (hr : Room k X.A) (hx : Passes CX X E) (ha : PA X (e :: es) t)
    (hg : Gl X x := by rfl) (hdb : (x == ("__debug__" : Str)) = false := by decide)
    (he : starEach (e :: es) X.env = (false, eval e X.env) :: starEach es X.env := by rfl)
    (hpl : (backTo pos (starEach es X.env)).any (·.1) = false := by rfl) :
    PE X (.Call (.Name x p) (e :: es) [] pos) (tCall sp [] E t) := by
  obtain ⟨f, fd, g, kp, b, F⟩ := G.ex
  exact pe_call F hr hg g kp b .nil hx ha hdb he hpl
/-- .. the wish of an exception at the caller's slots -/
theorem pe_cdS {X : Cx} {CX : CXT} {k : Nat} {x : Str} {ps : List Str} {sp : Sp} {E : L2.St → XK} {e : Expr} {es : List Expr} {t : TA} {p pos : Pos}
    (G : Ok X.prog X.w X.K X.mg X.base CX k x ps sp) (hr : Room k X.A) (hx : ∀ σ, PassesAt CX X σ (E σ)) (ha : PA X (e :: es) t)
    (hg : Gl X x := by rfl) (hdb : (x == ("__debug__" : Str)) = false := by decide)
    (he : starEach (e :: es) X.env = (false, eval e X.env) :: starEach es X.env := by rfl)
    (hpl : (backTo pos (starEach es X.env)).any (·.1) = false := by rfl) :
    PE X (.Call (.Name x p) (e :: es) [] pos) (tCallS sp E t) := by
  obtain ⟨f, fd, g, kp, b, F⟩ := G.ex
  exact pe_callS F hr hg g kp b hx ha hdb he hpl
end
theorem Ok.mono {P : Program} {w : World} {K : PySem.W.Frag} {mg : Str → Option Value} {base : Heap} {CX : CXT} {j k : Nat} {x : Str} {ps : List Str} {sp : Sp}
    (G : Ok P w K mg base CX j x ps sp) (h : j ≤ k) : Ok P w K mg base CX k x ps sp := by
  obtain ⟨f, fd, g, kp, b, F⟩ := G.ex
  exact ⟨f, fd, g, kp, b, F.mono h⟩
/-! ### rules that name the written part, for comprehensions -/
section
variable {X : Cx}
theorem ix_listK (K : PySem.W.Frag) (h : X.K = K := by rfl) : IxR X (rIxL K) := by subst h; exact ix_list
theorem ix_tupK (K : PySem.W.Frag) (h : X.K = K := by rfl) : IxR X (rIxT K) := by subst h; exact ix_tup
theorem sl_listK (K : PySem.W.Frag) (h : X.K = K := by rfl) : SlR X (rSlL K) := by subst h; exact sl_list
def rLenK (K : PySem.W.Frag) : List V → Hp → VK → Prop := fun xs H Q => ∃ p ys, xs = [.ref p] ∧ (SqL K H p ys ∨ SqT K H p ys) ∧ Q (.int (ys.length : Nat)) H
theorem call_lenK (K : PySem.W.Frag) (h : X.K = K := by rfl) : CallR X (.builtin "len") (rLenK K) := by subst h; exact call_len_seq
theorem op_notInK (K : PySem.W.Frag) (h : X.K = K := by rfl) : OpR X (compareOp .NotIn) (rIn K true) := by subst h; exact op_notIn_seq
def rJoin (K : PySem.W.Frag) : V → List V → Hp → VK → Prop := fun x xs H Q => ∃ a p, ∃ ys : List Str, x = .str a ∧ xs = [.ref p] ∧ (SqL K H p (ys.map V.str) ∨ SqT K H p (ys.map V.str)) ∧
  (ys.map (·.length)).sum + ys.length * a.length ≤ 16777216 ∧ Q (.str (Txt.join a ys)) H
theorem pe_joinK {o e : Expr} {to te : TE} {apos pos : Pos} (K : PySem.W.Frag) (ho : PE X o to) (he : PE X e te) (h : X.K = K := by rfl)
    (hs : starEach [e] X.env = [(false, eval e X.env)] := by rfl) (hbase : attributeBase o "join" X.env (eval o X.env) = eval o X.env := by rfl)
    (hline : (apos.endLine == pos.line) = true := by rfl) : PE X (.Call (.Attribute o "join" apos) [e] [] pos) (tM1 (rJoin K) to te) := by
  subst h
  exact pe_join ho he hs hbase hline
end
/-! ### operators that the layer lacks -/
/-- text * int -/
theorem op_mulS {X : Cx} : OpR X (binaryOp .Mult) (fun x y H Q => ∃ (l : List Nat) (n : Int), x = vt l ∧ y = .int n ∧
    -(2 ^ 63) ≤ n ∧ n < 2 ^ 63 ∧ l.length * n.toNat ≤ sizeLine ∧ Q (vt (List.replicate n.toNat l).flatten) H) := by
  intro pins s σ H x y v u Q I rx ry h
  obtain ⟨l, n, rfl, rfl, h1, h2, hz, q⟩ := h
  obtain ⟨t, rfl⟩ := rx
  obtain ⟨t', rfl⟩ := ry
  have hsl : sizeLine = 16777216 := sizeLine_eq
  have fin : ∀ (z : Str) (tk : Nat) (t0 : Tok), z = tx (List.replicate n.toNat l).flatten → EP X pins σ Q (.str z t0) { s with toks := tk } := fun z tk t0 e => by
    subst e
    exact ⟨vt (List.replicate n.toNat l).flatten, H, I.tok tk, ⟨_, rfl⟩, q⟩
  have ffold : ∀ (m : Nat) (acc : List Nat), (List.replicate m l.toArray).foldl (· ++ ·) acc.toArray = (acc ++ (List.replicate m l).flatten).toArray := by
    intro m
    induction m with
    | zero => intro acc; simp
    | succ m ih =>
      intro acc
      rw [List.replicate_succ, List.foldl_cons, List.append_toArray, ih, List.replicate_succ, List.flatten_cons, List.append_assoc]
  refine PySem.P.mul_str ?_ (fun a b => ?_) (fun a b => ?_) ?_
  · rw [decide_eq_false (by omega), decide_eq_false (by omega)]; rfl
  · rw [tx_len]
    have hn : 1 ≤ n := by omega
    have : (l.length : Int) * n ≤ 16777216 := by
      rw [hsl] at hz
      have e : ((n.toNat : Nat) : Int) = n := Int.toNat_of_nonneg (by omega)
      have hz2 : ((l.length * n.toNat : Nat) : Int) ≤ ((16777216 : Nat) : Int) := Int.ofNat_le.mpr hz
      rw [Int.natCast_mul, e] at hz2
      omega
    intro hgt
    have : (2 ^ 63 - 1 : Int) / n < l.length := hgt
    have h3 := (Int.ediv_lt_iff_lt_mul (a := 2 ^ 63 - 1) (b := (l.length : Int)) (c := n) (by omega)).mp this
    omega
  · rw [tx_len]
    show decide _ = false
    exact decide_eq_false (Nat.not_lt.mpr hz)
  · by_cases a : n < 1
    · rw [if_pos a]
      have e0 : n.toNat = 0 := by omega
      refine ⟨by decide, ?_⟩
      exact fin _ _ _ (by rw [e0]; rfl)
    · rw [if_neg a]
      by_cases b : (n == 1 || (tx l).length == 0) = true
      · rw [if_pos b]
        have e1 : (List.replicate n.toNat l).flatten = l := by
          rcases Bool.or_eq_true_iff.mp b with b | b
          · have : n = 1 := eq_of_beq b
            subst this
            simp
          · have : l = [] := by
              have := eq_of_beq b
              rw [tx_len] at this
              exact List.length_eq_zero_iff.mp this
            subst this
            simp
        show EP X pins σ Q (.str (tx l) t) s
        exact fin (tx l) s.toks t (by rw [e1])
      · rw [if_neg b]
        have e2 : (⟨(List.replicate n.toNat (tx l).cps).foldl (· ++ ·) #[]⟩ : Str) = tx (List.replicate n.toNat l).flatten := by
          have := ffold n.toNat []
          show (⟨(List.replicate n.toNat l.toArray).foldl (· ++ ·) #[]⟩ : Str) = ⟨(List.replicate n.toNat l).flatten.toArray⟩
          rw [show (#[] : Array Nat) = ([] : List Nat).toArray from rfl, this]
          rfl
        have e3 : (List.replicate n.toNat l).flatten.length ≤ sizeLine := by
          rw [List.length_flatten, List.map_replicate, List.sum_replicate_nat, Nat.mul_comm]
          exact hz
        rw [e2]
        first
          | exact ⟨by rw [tx_len]; exact e3, fin _ _ _ rfl⟩
          | exact fin _ _ _ rfl
/-- powers of numbers of a known size -/
theorem op_powW {X : Cx} : OpR X (binaryOp .Pow) (fun x y H Q => ∃ i j : Int, x = .int i ∧ y = .int j ∧ 0 ≤ j ∧ (Builtin.Int.intBits i : Int) * j ≤ 2 ^ 27 ∧ Q (.int (i ^ j.toNat)) H) := by
  intro pins s σ H x y v u Q I rx ry h
  obtain ⟨i, j, rfl, rfl, h1, h2, q⟩ := h
  obtain ⟨t, rfl⟩ := rx
  obtain ⟨t', rfl⟩ := ry
  exact PyProof.Rows.pow_int h1 h2 ⟨.int _, H, I.tok _, ⟨_, rfl⟩, q⟩

/-! ### == of lists of ints and texts -/
def flat : V → Bool
  | .int _ => true
  | .str z => PyData.strOk z
  | _ => false
def pd : V → PyData
  | .int i => .int i
  | .str z => .str z
  | _ => .none
theorem pd_eqv : ∀ {a b : V}, flat a = true → flat b = true → PyData.eqv (pd a) (pd b) = decide (a = b) := by
  intro a b ha hb
  cases a <;> first | exact absurd ha Bool.false_ne_true | skip
  all_goals (cases b <;> first | exact absurd hb Bool.false_ne_true | skip)
  · rename_i i j
    show (i == j) = _
    rw [dec_vi, Bool.beq_eq_decide_eq]
  · simp [pd, PyData.eqv]
  · simp [pd, PyData.eqv]
  · rename_i i j
    show (i == j) = _
    rw [Bool.beq_eq_decide_eq]
    by_cases e : i = j
    · subst e; simp
    · rw [decide_eq_false e, decide_eq_false (fun z => e (V.str.inj z))]
theorem pd_eqvAll : ∀ {xs ys : List V}, xs.all flat = true → ys.all flat = true → PyData.eqvAll (xs.map pd) (ys.map pd) = decide (xs = ys) := by
  intro xs
  induction xs with
  | nil =>
    intro ys _ _
    cases ys with
    | nil => simp [PyData.eqvAll]
    | cons y r => simp [PyData.eqvAll]
  | cons x r ih =>
    intro ys hx hy
    cases ys with
    | nil => simp [PyData.eqvAll]
    | cons y q =>
      simp only [List.all_cons, Bool.and_eq_true] at hx hy
      show (PyData.eqv (pd x) (pd y) && PyData.eqvAll (r.map pd) (q.map pd)) = _
      rw [pd_eqv hx.1 hy.1, ih hx.2 hy.2]
      by_cases e1 : x = y
      · by_cases e2 : r = q
        · subst e1 e2; simp
        · simp [e2]
      · simp [e1]
theorem dpAll {K : PySem.W.Frag} {H : Hp} : ∀ {xs : List V}, xs.all flat = true → DpAll K H xs (xs.map pd) := by
  intro xs
  induction xs with
  | nil => intro _; exact .nil
  | cons x r ih =>
    intro h
    simp only [List.all_cons, Bool.and_eq_true] at h
    refine .cons ?_ (ih h.2)
    have h1 := h.1
    cases x <;> first | exact absurd h1 Bool.false_ne_true | skip
    · exact .int _
    · exact .str _
theorem pd_lay : ∀ {x : V}, flat x = true → (pd x).canLay0 = true ∧ (pd x).depth = 0 := by
  intro x h
  cases x <;> first | exact absurd h Bool.false_ne_true | skip
  · exact ⟨by simp [pd, PyData.canLay0], by simp [pd, PyData.depth]⟩
  · exact ⟨by simp only [pd, PyData.canLay0]; exact h, by simp [pd, PyData.depth]⟩
theorem pd_layAll : ∀ {xs : List V}, xs.all flat = true → PyData.canLayAll0 (xs.map pd) = true ∧ PyData.depthAll (xs.map pd) = 0 := by
  intro xs
  induction xs with
  | nil => intro _; exact ⟨by simp [PyData.canLayAll0], by simp [PyData.depthAll]⟩
  | cons x r ih =>
    intro h
    simp only [List.all_cons, Bool.and_eq_true] at h
    obtain ⟨h1, h2⟩ := pd_lay h.1
    obtain ⟨h3, h4⟩ := ih h.2
    exact ⟨by simp [PyData.canLayAll0, h1, h3], by simp [PyData.depthAll, h2, h4]⟩
theorem pd_shaped {xs : List V} (h : xs.all flat = true) : SeqAt.shaped (.list (xs.map pd)) = true := by
  obtain ⟨h1, h2⟩ := pd_layAll h
  simp [SeqAt.shaped, PyData.canLay0, PyData.depth, h1, h2]
def rEqL (K : PySem.W.Frag) : R2 := fun x y H Q => ∃ a b xs ys, x = .ref a ∧ y = .ref b ∧ SqL K H a xs ∧ SqL K H b ys ∧ xs.all flat = true ∧ ys.all flat = true ∧ Q (.bl (decide (xs = ys))) H
def rNeL (K : PySem.W.Frag) : R2 := fun x y H Q => ∃ a b xs ys, x = .ref a ∧ y = .ref b ∧ SqL K H a xs ∧ SqL K H b ys ∧ xs.all flat = true ∧ ys.all flat = true ∧ Q (.bl (!decide (xs = ys))) H
theorem op_eqL {X : Cx} {k : Nat} (hr : Room k X.A) : OpR X (compareOp .Eq) (rEqL X.K) := by
  intro pins s σ H x y v u Q I rx ry h
  obtain ⟨a, b, xs, ys, rfl, rfl, ha, hb, fa, fb, q⟩ := h
  refine op_eqD hr.units pins s σ H _ _ v u Q I rx ry ⟨_, _, .lst ha (dpAll fa), .lst hb (dpAll fb), pd_shaped fa, pd_shaped fb, ?_⟩
  show Q (.bl (PyData.eqvAll _ _)) H
  rw [pd_eqvAll fa fb]
  exact q
theorem op_neL {X : Cx} {k : Nat} (hr : Room k X.A) : OpR X (compareOp .NotEq) (rNeL X.K) := by
  intro pins s σ H x y v u Q I rx ry h
  obtain ⟨a, b, xs, ys, rfl, rfl, ha, hb, fa, fb, q⟩ := h
  refine op_neD hr.units pins s σ H _ _ v u Q I rx ry ⟨_, _, .lst ha (dpAll fa), .lst hb (dpAll fb), pd_shaped fa, pd_shaped fb, ?_⟩
  show Q (.bl (!PyData.eqvAll _ _)) H
  rw [pd_eqvAll fa fb]
  exact q
theorem flat_vis (ns : List Int) : (vis ns).all flat = true := by
  simp [flat]
end Tw
namespace Tw
open PySem PySem.Spec PyProof.Rows L2
/-! ### loops by what is done and what is to come -/
theorem split_at {α : Type} {l : List α} {i : Nat} {c : α} (h : l[i]? = some c) : l = l.take i ++ c :: l.drop (i + 1) ∧ l.drop i = c :: l.drop (i + 1) ∧ l.take (i + 1) = l.take i ++ [c] := by
  obtain ⟨hi, e⟩ := List.getElem?_eq_some_iff.mp h
  have d : l.drop i = c :: l.drop (i + 1) := by
    rw [List.drop_eq_getElem_cons hi, e]
  refine ⟨?_, d, ?_⟩
  · rw [← d, List.take_append_drop]
  · rw [List.take_add_one, h]; rfl
/-- over the signs of a text -/
theorem for_txt {l : List Nat} {g : TG} {tb : TS} {D : Ends} {σ : L2.St} {H : Hp} (Pv : List Nat → List Nat → L2.St → Hp → Prop) (h0 : Pv [] l σ H)
    (hs : ∀ a c b σ H, l = a ++ c :: b → Pv a (c :: b) σ H → g (vt [c]) σ H fun σ2 H2 => tb { D with nx := Pv (a ++ [c]) b, ct := Pv (a ++ [c]) b, bk := D.nx } σ2 H2)
    (hd : ∀ σ H, Pv l [] σ H → D.nx σ H) :
    ∃ W : Nat → Nat → L2.St → Hp → Prop, (∃ m, W 0 m σ H) ∧ ∀ i m σ H, W i m σ H →
      ((Its (tx l)).stop i H ∧ D.nx σ H) ∨ ((Its (tx l)).go i H ∧ ∃ N : L2.St → Hp → Prop, (∀ σ' H', N σ' H' → ∃ m', m' < m ∧ W (i + 1) m' σ' H') ∧
        ∀ x H', (Its (tx l)).yld i H x H' → g x σ H' fun σ2 H2 => tb { D with nx := N, ct := N, bk := D.nx } σ2 H2) := by
  refine ⟨fun i m σ H => m = l.length - i ∧ i ≤ l.length ∧ Pv (l.take i) (l.drop i) σ H, ⟨l.length, by simp, Nat.zero_le _, by simpa using h0⟩, ?_⟩
  rintro i m σ H ⟨rfl, hi, p⟩
  by_cases hlt : i < l.length
  · have hc : l[i]? = some l[i] := List.getElem?_eq_getElem hlt
    obtain ⟨e1, e2, e3⟩ := split_at hc
    refine .inr ⟨?_, Pv (l.take i ++ [l[i]]) (l.drop (i + 1)), fun σ' H' p' => ⟨l.length - (i + 1), by omega, rfl, hlt, ?_⟩, fun x H' y => ?_⟩
    · show i < (tx l).cps.size
      rw [tx_size]; exact hlt
    · rw [e3]; exact p'
    · obtain ⟨e, c, hc', rfl⟩ := y
      subst e
      rw [tx_get, hc] at hc'
      have ec := Option.some.inj hc'
      subst ec
      rw [e2] at p
      exact hs (l.take i) l[i] (l.drop (i + 1)) σ _ e1 p
  · have e : i = l.length := by omega
    subst e
    refine .inl ⟨?_, hd σ H ?_⟩
    · show (tx l).cps.size ≤ l.length
      rw [tx_size]; exact Nat.le_refl _
    · simpa using p
/-- over a list that the body leaves as it is; the items by f -/
theorem for_lst {α : Type} {f : α → V} {K : PySem.W.Frag} {a : Addr} {l : List α} {g : TG} {tb : TS} {D : Ends} {σ : L2.St} {H : Hp} (Pv : List α → List α → L2.St → Hp → Prop) (h0 : Pv [] l σ H)
    (hl : ∀ d r σ H, Pv d r σ H → SqL K H a (l.map f))
    (hs : ∀ d c b σ H, l = d ++ c :: b → Pv d (c :: b) σ H → g (f c) σ H fun σ2 H2 => tb { D with nx := Pv (d ++ [c]) b, ct := Pv (d ++ [c]) b, bk := D.nx } σ2 H2)
    (hd : ∀ σ H, Pv l [] σ H → D.nx σ H) :
    ∃ W : Nat → Nat → L2.St → Hp → Prop, (∃ m, W 0 m σ H) ∧ ∀ i m σ H, W i m σ H →
      ((Itl K a).stop i H ∧ D.nx σ H) ∨ ((Itl K a).go i H ∧ ∃ N : L2.St → Hp → Prop, (∀ σ' H', N σ' H' → ∃ m', m' < m ∧ W (i + 1) m' σ' H') ∧
        ∀ x H', (Itl K a).yld i H x H' → g x σ H' fun σ2 H2 => tb { D with nx := N, ct := N, bk := D.nx } σ2 H2) := by
  refine for_list (xs := l.map f) (fun i σ H => Pv (l.take i) (l.drop i) σ H) (by simpa using h0) (fun i σ H _ p => hl _ _ _ _ p) (fun i x σ H hx p => ?_) (fun σ H p => hd σ H (by simpa using p))
  rw [List.getElem?_map] at hx
  cases hc : l[i]? with
  | none => rw [hc] at hx; cases hx
  | some c =>
    rw [hc] at hx
    have ex : f c = x := Option.some.inj hx
    subst ex
    obtain ⟨e1, e2, e3⟩ := split_at hc
    rw [e2] at p
    rw [e3]
    exact hs _ _ _ σ H e1 p

theorem last_eq {α : Type} {l d : List α} {a c : α} (h : l ++ [a] = d ++ [c]) : a = c := by
  have := (List.append_inj' h rfl).2
  exact (List.cons.inj this).1
theorem vts_app (ws : List (List Nat)) (h : List Nat) : vts (ws ++ [h]) = vts ws ++ [vt h] := List.map_append
theorem vis_app (ws : List Int) (h : Int) : vis (ws ++ [h]) = vis ws ++ [.int h] := List.map_append
theorem flat_get {α : Type} {f : α → V} {l : List α} {i : Nat} {x : α} (h : l[i]? = some x) : (l.map f)[i]? = some (f x) := by
  rw [List.getElem?_map, h]; rfl
/-! ### literals -/
theorem lit_sp : PySem.Str.ofString " " = tx [32] := by decide +kernel
theorem lit_nl : PySem.Str.ofString "\n" = tx [10] := by decide +kernel
theorem lit_nil : PySem.Str.ofString "" = tx [] := by decide +kernel
theorem ne_vt {a b : List Nat} {x : Str} (e : x = tx b) : (!decide (vt a = V.str x)) = !decide (a = b) := by
  rw [e, dec_vt]
theorem ne_sg {a b : Nat} {x : Str} (e : x = tx [b]) : (!decide (vt [a] = V.str x)) = !decide (a = b) := by
  rw [ne_vt e]
  simp
theorem sz {n : Nat} (h : n ≤ 16777216 := by omega) : n ≤ sizeLine := by
  rw [sizeLine_eq]; exact h
theorem szl {n : Nat} (h : n < 16777216 := by omega) : n < sizeLine := by
  rw [sizeLine_eq]; exact h
/-! ### tests -/
theorem tst {b : Bool} {c A B : Prop} [Decidable c] (e : b = decide c) (h1 : c → A) (h2 : ¬ c → B) : if b = true then A else B := by
  subst e
  by_cases h : c
  · rw [if_pos (decide_eq_true h)]; exact h1 h
  · rw [if_neg (by simpa using h)]; exact h2 h
theorem tsn {b : Bool} {c A B : Prop} [Decidable c] (e : b = !decide c) (h1 : ¬ c → A) (h2 : c → B) : if b = true then A else B := by
  subst e
  by_cases h : c
  · rw [if_neg (by simpa using h)]; exact h2 h
  · rw [if_pos (by simpa using h)]; exact h1 h
/-! ### slices -/
theorem cut_from {α : Type} (f : α → V) (l : List α) (k : Nat) : cutV (l.map f) (some (k : Int)) none = (l.drop k).map f := by
  unfold cutV
  rw [show HT.sIx (l.map f).length 0 (some (k : Int)) = min k (l.map f).length from HT.sIx_nat _ 0 k, HT.sIx_none, List.length_map, List.map_drop]
  by_cases h : k ≤ l.length
  · rw [Nat.min_eq_left h, List.take_of_length_le (by simp)]
  · have h2 : l.length ≤ k := by omega
    rw [Nat.min_eq_right h2, List.drop_of_length_le (by simp), List.drop_of_length_le (by simpa using h2)]
    simp
theorem cut_to {α : Type} (f : α → V) (l : List α) (k : Nat) : cutV (l.map f) none (some (k : Int)) = (l.take k).map f := by
  unfold cutV
  rw [show HT.sIx (l.map f).length (l.map f).length (some (k : Int)) = min k (l.map f).length from HT.sIx_nat _ _ k, HT.sIx_none, List.length_map, List.map_take, List.drop_zero, Nat.sub_zero]
  by_cases h : k ≤ l.length
  · rw [Nat.min_eq_left h]
  · have h2 : l.length ≤ k := by omega
    rw [Nat.min_eq_right h2, List.take_of_length_le (by simp), List.take_of_length_le (by simpa using h2)]
theorem cut_ft {α : Type} (f : α → V) (l : List α) (a b : Nat) : cutV (l.map f) (some (a : Int)) (some (b : Int)) = ((l.drop a).take (b - a)).map f := by
  unfold cutV
  rw [show HT.sIx (l.map f).length (l.map f).length (some (b : Int)) = min b (l.map f).length from HT.sIx_nat _ _ b, show HT.sIx (l.map f).length 0 (some (a : Int)) = min a (l.map f).length from HT.sIx_nat _ _ a, List.length_map, List.map_take, List.map_drop]
  by_cases ha : a ≤ l.length
  · rw [Nat.min_eq_left ha]
    by_cases hb : b ≤ l.length
    · rw [Nat.min_eq_left hb]
    · have h1 : (List.drop a (List.map f l)).length ≤ min b l.length - a := by
        rw [List.length_drop, List.length_map]; omega
      have h2 : (List.drop a (List.map f l)).length ≤ b - a := by
        rw [List.length_drop, List.length_map]; omega
      rw [List.take_of_length_le h1, List.take_of_length_le h2]
  · have h1 : List.drop (min a l.length) (List.map f l) = [] := List.drop_of_length_le (by rw [List.length_map]; omega)
    have h2 : List.drop a (List.map f l) = [] := List.drop_of_length_le (by rw [List.length_map]; omega)
    rw [h1, h2, List.take_nil, List.take_nil]
theorem le_sum_mem : ∀ {l : List Nat} {x : Nat}, x ∈ l → x ≤ l.sum
  | a :: r, x, h => by
    rw [List.sum_cons]
    rcases List.mem_cons.mp h with e | h
    · omega
    · have := le_sum_mem h; omega
/-! ### words -/
def wcut (h : List Nat) : List Nat → List (List Nat)
  | [] => if h = [] then [] else [h]
  | c :: r => if c = 32 ∨ c = 10 then (if h = [] then wcut [] r else h :: wcut [] r) else wcut (h ++ [c]) r
theorem wcut_b {c : Nat} {r : List Nat} (h : c = 32 ∨ c = 10) : wcut [] (c :: r) = wcut [] r := by
  simp only [wcut]; rw [if_pos h]; simp
theorem wcut_w {c : Nat} {r h : List Nat} (n : h ≠ []) (hc : c = 32 ∨ c = 10) : wcut h (c :: r) = h :: wcut [] r := by
  simp only [wcut]; rw [if_pos hc, if_neg n]
theorem wcut_s {c : Nat} {r h : List Nat} (hc : ¬ (c = 32 ∨ c = 10)) : wcut h (c :: r) = wcut (h ++ [c]) r := by
  simp only [wcut]; rw [if_neg hc]
theorem wcut_e {h : List Nat} (n : h ≠ []) : wcut h [] = [h] := by
  simp only [wcut]; rw [if_neg n]
theorem wcut_blank : ∀ (l h : List Nat), wcut h (l ++ [32]) = wcut h l
  | [], h => by simp [wcut]
  | c :: r, h => by
    simp only [List.cons_append, wcut]
    rw [wcut_blank r [], wcut_blank r (h ++ [c])]
theorem wcut_length : ∀ (l h : List Nat), (wcut h l).length ≤ l.length + 1
  | [], h => by simp only [wcut]; split <;> simp
  | c :: r, h => by
    simp only [wcut]
    have h1 := wcut_length r []
    have h2 := wcut_length r (h ++ [c])
    simp only [List.length_cons]
    split
    · split
      · omega
      · simp only [List.length_cons]; omega
    · omega
/-- what is in the words is in the text -/
theorem wcut_mem : ∀ (l h : List Nat) {x : List Nat} {c : Nat}, x ∈ wcut h l → c ∈ x → c ∈ h ∨ (c ∈ l ∧ c ≠ 32 ∧ c ≠ 10)
  | [], h, x, c, hx, hc => by
    simp only [wcut] at hx
    split at hx
    · cases hx
    · rw [List.mem_singleton.mp hx] at hc; exact .inl hc
  | d :: r, h, x, c, hx, hc => by
    simp only [wcut] at hx
    have up : ∀ {q : List Nat}, (c ∈ q ∨ (c ∈ r ∧ c ≠ 32 ∧ c ≠ 10)) → c ∈ q ∨ (c ∈ d :: r ∧ c ≠ 32 ∧ c ≠ 10) := fun z => z.imp id fun z => ⟨List.mem_cons_of_mem _ z.1, z.2⟩
    split at hx
    · split at hx
      · rcases up (wcut_mem r [] hx hc) with z | z
        · cases z
        · exact .inr z
      · rcases List.mem_cons.mp hx with e | hx
        · rw [e] at hc; exact .inl hc
        · rcases up (wcut_mem r [] hx hc) with z | z
          · cases z
          · exact .inr z
    · rename_i hd
      rcases wcut_mem r (h ++ [d]) hx hc with z | z
      · rcases List.mem_append.mp z with z | z
        · exact .inl z
        · rw [List.mem_singleton.mp z]
          exact .inr ⟨List.mem_cons_self, fun e => hd (.inl e), fun e => hd (.inr e)⟩
      · exact .inr ⟨List.mem_cons_of_mem _ z.1, z.2⟩
theorem wcut_ne : ∀ (l h : List Nat), [] ∉ wcut h l
  | [], h => by
    simp only [wcut]
    split
    · simp
    · rename_i n; simp; exact n
  | c :: r, h => by
    simp only [wcut]
    split
    · split
      · exact wcut_ne r []
      · rename_i n
        intro z
        rcases List.mem_cons.mp z with e | z
        · exact n e.symm
        · exact wcut_ne r [] z
    · exact wcut_ne r _
theorem wcut_plain : ∀ (l h : List Nat), (∀ c ∈ l, c ≠ 32 ∧ c ≠ 10) → wcut h l = if h ++ l = [] then [] else [h ++ l]
  | [], h, _ => by simp [wcut]
  | c :: r, h, hl => by
    have hc := hl c List.mem_cons_self
    simp only [wcut]
    rw [if_neg (by omega), wcut_plain r (h ++ [c]) fun d hd => hl d (List.mem_cons_of_mem _ hd)]
    simp
/-- the length of all signs in the words -/
def total (ws : List (List Nat)) : Nat := (ws.map List.length).sum
theorem wcut_total : ∀ (l h : List Nat), total (wcut h l) ≤ h.length + l.length
  | [], h => by
    simp only [wcut]
    split <;> simp [total]
  | c :: r, h => by
    simp only [wcut]
    have h1 := wcut_total r []
    have h2 := wcut_total r (h ++ [c])
    simp only [List.length_append, List.length_cons, List.length_nil] at h1 h2 ⊢
    split
    · split
      · omega
      · simp only [total, List.map_cons, List.sum_cons] at h1 ⊢; omega
    · omega
theorem one_word (l : List Nat) : wcut [] l = [l] ↔ (l ≠ [] ∧ 32 ∉ l ∧ 10 ∉ l) := by
  constructor
  · intro h
    refine ⟨fun e => ?_, fun z => ?_, fun z => ?_⟩
    · subst e; simp [wcut] at h
    · have := wcut_mem l [] (x := l) (c := 32) (by rw [h]; simp) z
      rcases this with z | z
      · cases z
      · exact z.2.1 rfl
    · have := wcut_mem l [] (x := l) (c := 10) (by rw [h]; simp) z
      rcases this with z | z
      · cases z
      · exact z.2.2 rfl
  · rintro ⟨h1, h2, h3⟩
    rw [wcut_plain l [] fun c hc => ⟨fun e => h2 (e ▸ hc), fun e => h3 (e ▸ hc)⟩]
    simp [h1]
/-- texts joined -/
def jn (y : List Nat) : List (List Nat) → List Nat
  | [] => []
  | [p] => p
  | p :: q :: r => p ++ (y ++ jn y (q :: r))
theorem jn_eq (y : List Nat) : ∀ ws : List (List Nat), TL.joinL y ws = jn y ws
  | [] => rfl
  | [_] => rfl
  | p :: q :: r => by
    show p ++ (y ++ TL.joinL y (q :: r)) = p ++ (y ++ jn y (q :: r))
    rw [jn_eq y (q :: r)]
theorem join_tx (y : List Nat) (ws : List (List Nat)) : Txt.join (tx y) (ws.map tx) = tx (jn y ws) := by
  rw [TL.join_eq]
  refine TL.ext_tl ?_
  have tlx : ∀ x : List Nat, TL.tl (tx x) = x := fun x => tx_list x
  rw [TL.tl_join, tlx, tlx, List.map_map, show (TL.tl ∘ tx) = (id : List Nat → List Nat) from funext tlx, List.map_id, jn_eq]
theorem jn_len (y : List Nat) : ∀ ws : List (List Nat), (jn y ws).length ≤ total ws + ws.length * y.length
  | [] => by simp [jn]
  | [p] => by simp [jn, total]
  | p :: q :: r => by
    have h := jn_len y (q :: r)
    have e : (p :: q :: r).length * y.length = (q :: r).length * y.length + y.length := by rw [List.length_cons, Nat.succ_mul]
    rw [e]
    show (p ++ (y ++ jn y (q :: r))).length ≤ _
    have e2 : total (p :: q :: r) = p.length + total (q :: r) := rfl
    rw [List.length_append, List.length_append, e2]
    omega
theorem jn_nil : ∀ ws : List (List Nat), jn [] ws = ws.flatten
  | [] => rfl
  | [p] => by simp [jn]
  | p :: q :: r => by
    show p ++ ([] ++ jn [] (q :: r)) = _
    rw [jn_nil (q :: r)]; rfl
theorem jn_mem {c : Nat} {ws : List (List Nat)} (h : c ∈ jn [] ws) : ∃ x ∈ ws, c ∈ x := by
  rw [jn_nil] at h
  obtain ⟨x, hx, hc⟩ := List.mem_flatten.mp h
  exact ⟨x, hx, hc⟩
/-- of such a text's signs -/
def plainTx (l : List Nat) : Prop := ∀ c ∈ l, c < 1114112
theorem plain_ok {l : List Nat} (h : plainTx l) : PyData.strOk (tx l) = true := by
  show l.toArray.all _ = true
  rw [List.all_toArray, List.all_eq_true]
  intro c hc
  exact decide_eq_true (h c hc)
theorem flat_vts {ws : List (List Nat)} (h : ∀ x ∈ ws, plainTx x) : (vts ws).all flat = true := by
  rw [List.all_map, List.all_eq_true]
  exact fun x hx => plain_ok (h x hx)
/-! ### the end: what the top has written -/
theorem at_mk {K : PySem.W.Frag} {h : Heap} {mg : Str → Option Value} {x : Str} {ps : List Str} {st : Stmt} {f : Addr} {oc kV dc pm cd ct : Value} {od an : Option Addr} {sl : Array (Option Value)}
    (X : K.In h) (G : h.Ns mainGlobals mg) (a : PySem.W.nsIn K mainGlobals x = some (some (.ref f)))
    (l : K.lookup f = some ⟨oc, od, .func (PySem.W.fnOf x x (defArgs st) (defBody st) (defScope st) .none kV dc pm an cd ct), sl⟩)
    (c : PySem.W.codeIn K cd x = true) (k : PySem.W.keepIn K (.ref f) = true)
    (b : ∀ (kV doc pm : Value) (an : Option Addr) (cdv ct : Value) (us : List Value), us.length = ps.length →
      bindArgs (PySem.W.fnOf x x (defArgs st) (defBody st) (defScope st) .none kV doc pm an cdv ct) ⟨us, []⟩ = pure (ps.zip us)) : At K mg x ps st := by
  have F := fun_mk (x := x) (qual := x) (st := st) l c k
  exact ⟨f, _, PySem.W.mg_of X G a, F, F.binds b⟩
structure LawAt (K : PySem.W.Frag) (fa : Addr) (x p : Str) (st : Stmt) : Prop where
  ex : ∃ fd, (∀ (s : Shared) (v : Value), BindsTo s fd ⟨[v], []⟩ [(p, v)]) ∧ Fun K x x st fa fd
theorem lawat_mk {K : PySem.W.Frag} {h : Heap} {mg : Str → Option Value} {x p : Str} {st : Stmt} {f fa : Addr} {oc kV dc pm cd ct : Value} {od an : Option Addr} {sl : Array (Option Value)}
    (X : K.In h) (G : h.Ns mainGlobals mg) (hfa : mg x = some (.ref fa)) (a : PySem.W.nsIn K mainGlobals x = some (some (.ref f)))
    (l : K.lookup f = some ⟨oc, od, .func (PySem.W.fnOf x x (defArgs st) (defBody st) (defScope st) .none kV dc pm an cd ct), sl⟩)
    (c : PySem.W.codeIn K cd x = true) (k : PySem.W.keepIn K (.ref f) = true)
    (b : ∀ (kV doc pm : Value) (an : Option Addr) (cdv ct : Value) (s : Shared) (v : Value),
      BindsTo s (PySem.W.fnOf x x (defArgs st) (defBody st) (defScope st) .none kV doc pm an cdv ct) ⟨[v], []⟩ [(p, v)]) : LawAt K fa x p st := by
  have e := hfa.symm.trans (PySem.W.mg_of X G a)
  cases e
  exact ⟨_, b kV dc pm an cd ct, fun_mk (x := x) (qual := x) (st := st) l c k⟩
theorem bts_mk {K : PySem.W.Frag} {h : Heap} {mg : Str → Option Value} (X : K.In h) (G : h.Ns mainGlobals mg)
    (z1 : PySem.W.nsIn K mainGlobals "len" = some none) (z2 : PySem.W.nsIn K mainGlobals "range" = some none) (z3 : PySem.W.nsIn K mainGlobals "max" = some none)
    (z4 : PySem.W.nsIn K mainGlobals "sum" = some none) (z5 : PySem.W.nsIn K mainGlobals "int" = some none) (z6 : PySem.W.nsIn K mainGlobals "bool" = some none)
    (z7 : PySem.W.nsIn K mainGlobals "str" = some none) (z8 : PySem.W.nsIn K mainGlobals "list" = some none) (z9 : PySem.W.nsIn K mainGlobals "isinstance" = some none)
    (za : PySem.W.nsIn K mainGlobals "sorted" = some none) (zb : PySem.W.nsIn K mainGlobals "reversed" = some none) (zc : PySem.W.nsIn K mainGlobals "ValueError" = some none) : Bts mg :=
  have n : ∀ {x : Str}, PySem.W.nsIn K mainGlobals x = some none → mg x = none := fun z => PySem.W.mg_none_of X G z
  ⟨n z1, n z2, n z3, n z4, n z5, n z6, n z7, n z8, n z9, n za, n zb, n zc⟩
end Tw
namespace Tw
open PySem PySem.Spec PyProof.Rows L2
/-! ### while an exception is handled: the end of a list's iterator, sum, a comprehension over a range -/
section
variable {prog : Program} {w : World} {A : Around} {E : Value → Shared → Prop} {s : Shared}
theorem hot_list_end {it l x1 : Addr} {i : Nat} {items : Array Value} {Q : Option Value → Shared → Prop} (hot : HotX.HotAt A x1 s.heap)
    (hit : s.heap.IsListIter it l i) (hl : s.heap.IsList l items) (hx : items[i]? = none) (hn : x1 ≠ it)
    (hQ : ∀ h', Heap.ExtBut it s.heap h' → Q none { s with heap := h' }) : wpAny (model prog w) A (pyNext (.ref it)) Q E s := by
  obtain ⟨o, ho, hc, hd⟩ := id hit
  obtain ⟨ol, hol, _, nl, hdl⟩ := hl
  obtain ⟨hh, o1, vs1, h1, d1, c1⟩ := hot
  unfold pyNext
  refine wpAny_bind (wpAny_attempt ?_)
  refine wpAny_callSpecial?_slot (name := Str.ofString "__next__") hit.typeIs slot_listiter_next ?_
  refine wpAny_call_entry slot_listiter_next hit.typeIs entry_listiter_next ?_ (args_listiter_next _)
  show wpAny _ _ (field (.ref it) 0 >>= _) _ _ s
  refine wpAny_bind ?_
  refine wpAny_field ho hd (x := .ref l) rfl ?_
  show wpAny _ _ (if (Value.ref l == Value.none) = true then _ else _) _ _ s
  have nz : ¬ ((Value.ref l == Value.none) = true) := fun z => by cases z
  rw [if_neg nz]
  show wpAny _ _ (field (.ref it) 1 >>= _) _ _ s
  refine wpAny_bind ?_
  refine wpAny_field ho hd (x := .int i 0) rfl ?_
  show wpAny _ _ (seqItems? (.ref l) >>= _) _ _ s
  refine wpAny_bind ?_
  refine wpAny_seqItems hol hdl ?_
  simp only [Int.toNat_natCast, hx]
  refine wpAny_bind (wpAny_rule ?_)
  refine wpAny_bind (wpAny_setField ho hd (by simp) ?_)
  show wpAny _ _ (newExc (.type "StopIteration") [] >>= _) _ _ _
  refine wpAny_bind ?_
  simp only [newExc, newTuple]
  refine wpAny_bind ?_
  refine wpAny_newObj_type ?_ (by size_fits)
  refine wpAny_bind (m := firstArgMember _ _) ?_
  refine wpAny_of_eq (a := Value.none) (by first | rfl | (simp only [firstArgMember]; rfl)) ?_
  refine wpAny_newObj_type ?_ (by size_fits)
  have e1 : (s.heap.update it (Obj.mapFields (·.setIfInBounds 0 Value.none))).get? x1 = some o1 := by
    rw [Heap.get?_update_other _ _ (Ne.symm hn)]; exact h1
  refine HotX.raiseNew_hot (x1 := x1) ⟨hh, o1, vs1, Heap.get?_push_of_some _ (Heap.get?_push_of_some _ e1), d1, c1⟩ ?_ (Heap.get?_push_size _ rfl) rfl ?_ ?_
  · exact Nat.ne_of_lt (Heap.lt_size (Heap.get?_push_of_some _ e1))
  · first | (simp; done) | (simp; omega)
  · refine wpAny_bind ?_
    refine wpAny_isInstance (T := "StopIteration") (b := true) ⟨_, Heap.get?_update_self _ (Heap.get?_push_size _ rfl) rfl, rfl⟩ isSubtype_stop ?_
    refine wpAny_pure (hQ _ ?_)
    refine fun b ob hb e => ?_
    have e2 : (s.heap.update it (Obj.mapFields (·.setIfInBounds 0 Value.none))).get? b = some ob := by
      rw [Heap.get?_update_other _ _ (Ne.symm hb)]; exact e
    have e3 := Heap.get?_push_of_some { cls := .type "tuple", data := .seq ([] : List Value).toArray } e2
    rw [Heap.get?_update_other _ _ (Nat.ne_of_gt (Heap.lt_size e3))]
    exact Heap.get?_push_of_some _ e3
end
end Tw
namespace Tw
open PySem PySem.Spec PyProof.Rows L2
theorem hot_walks {prog : Program} {w : World} {A : Around} {x1 : Addr} {o1 : Obj} {vs1 : Array Value} (hh : A.handled = some (.ref x1)) (d1 : o1.data = .fields vs1) (c1 : vs1[2]? = some .none)
    (J ax : Addr) (hne : ax ≠ J) (hx : x1 ≠ J) (items : Array Value) :
    Walks prog w A J [J, ax, x1] [J] items.size (fun i v => items[i]? = some v) (fun i h => h.IsListIter J ax i ∧ h.IsList ax items ∧ h.get? x1 = some o1) where
  sub := fun b hb => by
    rw [List.mem_singleton.mp hb]; exact List.mem_cons_self
  frame := fun _ _ _ st hk => ⟨st.1.at fun o e => hk J (by simp) o e, st.2.1.at fun o e => hk ax (by simp) o e, hk x1 (by simp) _ st.2.2⟩
  item := fun i s Q E hi st hQ => by
    refine wpAny_pyNext_list_item st.1 st.2.1 (x := items[i]) (by simp [hi]) fun h' hit' hs' => ?_
    refine hQ _ h' s.toks (by simp [hi]) ⟨hit', st.2.1.extBut hs'.extBut hne, ?_⟩ fun b o hb e => hs'.extBut b o (fun h => hb (by simp [h])) e
    exact hs'.extBut x1 o1 hx st.2.2
  done := fun s Q E st hQ => by
    refine hot_list_end ⟨hh, o1, vs1, st.2.2, d1, c1⟩ st.1 st.2.1 (by simp) hx fun h' he' => ?_
    exact hQ h' s.toks fun b o hb e => he' b o (fun h => hb (by simp [h])) e
  self := fun _ _ _ _ st hQ => wpAny_pyIter_listiter st.1 hQ
theorem hot_sum {prog : Program} {w : World} {A : Around} {E : Value → Shared → Prop} {s : Shared} {l x1 : Addr} {o1 : Obj} {vs1 : Array Value} {xs : Array (Int × Tok)} {Q : Value → Shared → Prop}
    (hh : A.handled = some (.ref x1)) (h1 : s.heap.get? x1 = some o1) (d1 : o1.data = .fields vs1) (c1 : vs1[2]? = some .none) (hl : s.heap.IsList l (intItems xs))
    (h : ∀ h' tk t', (∀ b o, s.heap.get? b = some o → h'.get? b = some o) → Q (.int (preSum (numAt xs) xs.size) t') { s with heap := h', toks := tk }) :
    wpAny (model prog w) A (call (.builtin "sum") [.ref l]) Q E s := by
  have hx : x1 ≠ s.heap.objs.size := Nat.ne_of_lt (Heap.lt_size h1)
  refine call_sum_walkG (iter_intList hl fun s2 e st hfp hlI => ?_)
  subst e
  have W := hot_walks (prog := prog) (w := w) (A := A.in1) (o1 := o1) hh d1 c1 s.heap.objs.size l hlI hx (intItems xs)
  refine ⟨_, _, _, _, _, _, numAt xs, rfl, W, ⟨st.1, st.2, Heap.get?_push_of_some _ h1⟩, fun b hb => ?_, (fun _ _ => intItems_at), fun h' tk t' hk => ?_⟩
  · rcases List.mem_cons.mp hb with e | hb
    · exact hfp b (by rw [e]; simp)
    · rcases List.mem_cons.mp hb with e | hb
      · exact hfp b (by rw [e]; simp)
      · rw [List.mem_singleton.mp hb]
        exact Heap.lt_size (Heap.get?_push_of_some _ h1)
  · have z := h h' tk t' fun b o e => hk b o (fun z => by
      rw [List.mem_singleton.mp z] at e
      exact absurd (Heap.lt_size e) (Nat.lt_irrefl _)) (Heap.get?_push_of_some _ e)
    simpa [intItems] using z
theorem cr_sumH {X : Cx} (hc : L2H.HotC X) : CallR X (.builtin "sum") (rSum X.K) := by
  intro pins s σ H xs us Q I r h
  obtain ⟨a, ns, rfl, hS, q⟩ := h
  obtain ⟨p, ⟨hh, v1, d1, c1⟩, hp⟩ := hc
  have hg := (I.pin p (List.mem_append_left _ hp)).1
  obtain ⟨its, rv, hl, hz⟩ := I.list hS
  cases r with
  | cons r1 rr =>
    cases rr
    cases r1
    obtain ⟨xs', hx⟩ := rv.ints.allInts.items
    have hl2 := hl.isList
    have hn := rv.ints.numsOf
    rw [hx] at hl2
    refine hot_sum hh hg d1 c1 hl2 fun h' tk t' hk => ⟨.int ns.sum, H, I.kept hk, ⟨t', ?_⟩, q⟩
    have e1 : its = (intItems xs').toList := by rw [← hx]
    rw [e1, nums_intItems] at hn
    rw [preSum_eq, List.take_of_length_le (by simp), ← hn]
end Tw
namespace Tw
open PySem PySem.Spec PyProof.Rows L2
/-- a comprehension's block where an exception is handled: the pins go along -/
abbrev blkH (X : Cx) (s : Shared) (H : Hp) (scope : Scope) (cenv : Env) (fp : List Addr) : Cx :=
  { X with s_0 := s, H_0 := H, env := cenv, outer := X.stack, ex := fp, fn := fun x => scope.names.lookup x == some .cell, xe := fun _ _ => False }
theorem blkH_ok {X : Cx} {s : Shared} {H : Hp} {scope : Scope} {cenv : Env} {fp : List Addr} (k : (X.blk s H scope cenv fp).Ok) : (blkH X s H scope cenv fp).Ok :=
  ⟨k.mod, k.kind, k.glob, k.blt, k.above, k.inj, k.has, k.cab, k.hd, k.frames, k.stk, k.exf, k.bs, k.bsz, k.noex, k.exfs, k.funs, k.frf⟩
section
variable {X : Cx}
theorem pe_lcH {elt tg iter : Expr} {ifs : List Expr} {scope : Scope} {own : List (Str × Nat)} {pos : Pos} {wi : TI} {g : TG} {tt : TT} {te : TE}
    (hot : L2H.HotC X) (hN : X.N.Nodup) (hi : L2H.PIH X tg iter wi) (ok : BlkOk X.N X.env.scope scope own)
    (hg : ∀ (s : Shared) (H : Hp) (C : Addr) (cl : List (Str × Addr)) (fp : List Addr), PG (blkH X s H scope (compEnvC scope cl C X.env) fp) tg g)
    (ht : ∀ (s : Shared) (H : Hp) (C : Addr) (cl : List (Str × Addr)) (fp : List Addr), PTs (blkH X s H scope (compEnvC scope cl C X.env) fp) ifs tt)
    (he : ∀ (s : Shared) (H : Hp) (C : Addr) (cl : List (Str × Addr)) (fp : List Addr), PE (blkH X s H scope (compEnvC scope cl C X.env) fp) elt te)
    (hs : ∀ x, foldedSetIterable iter X.env x = pure x := by intro _; rfl) :
    PE X (.ListComp elt [⟨tg, iter, ifs, 0⟩] scope pos) (tLc wi g tt te (own.map (·.2))) := by
  constructor
  intro pins s σ H Q I h
  rw [eval_ListComp]
  have fr : ∀ y ∈ scope.names, y.2 = .free → ∃ c, X.env.cells.lookup y.1 = some c := by
    intro y hy e
    rcases ok.free y hy e with k | k
    · exact I.ok.has _ (.inl k)
    · exact I.ok.has _ (.inr k)
  refine wpAny_comprehension_free rfl hs (closure_ok fr) ok.kind (fun y hy e => by rw [ok.uniq y hy, e]) ?_
  refine thn (hi.run pins s σ H _ I h) fun xv s1 hx => thn hx fun itv s2 h2 => ?_
  obtain ⟨it, fp, tn, J, H2, rfl, I2, T, st2, f2, q⟩ := h2
  refine wpAny_newObj_type (newEnv_comp ?_) (by show 0 ≤ sizeLine; decide)
  obtain ⟨D, hD⟩ : ∃ D, s2.heap.objs.size = D := ⟨_, rfl⟩
  have Dn : H2 D = none := I2.hok.fresh (Nat.le_of_eq hD)
  obtain ⟨W, ⟨m0, w0⟩, turn⟩ := q D Dn
  rw [hD]
  obtain ⟨s3, hs3⟩ : ∃ s3 : Shared, s3 = { s2 with heap := s2.heap.push { cls := .type "list", data := .seq ([] : List Value).toArray } } := ⟨_, rfl⟩
  have h3 : s3.heap = s2.heap.push { cls := .type "list", data := .seq ([] : List Value).toArray } := by rw [hs3]
  have I3 : Inv X pins σ (upd H2 D (.lst [])) s3 := by
    rw [hs3]
    refine I2.laid (t' := s2.toks) (fun b o e => Heap.get?_push_of_some _ e) (Nat.le_of_eq hD) ?_
    exact ⟨Nat.zero_le _, [], 0, .nil, by rw [← hD]; exact Heap.get?_push_size _ rfl⟩
  obtain ⟨H3, hH3⟩ : ∃ H3, H3 = upd H2 D (.lst []) := ⟨_, rfl⟩
  rw [← hH3] at I3 w0
  have low : ∀ b ∈ fp, b < s2.heap.objs.size := fun b hb => let ⟨o, e, _⟩ := T.obj _ _ st2 b hb; Heap.lt_size e
  have f3 : ∀ b ∈ fp, FpOk X pins H3 b ∧ b < s3.heap.objs.size := by
    intro b hb
    have lt := low b hb
    refine ⟨⟨?_, (f2 b hb).2⟩, ?_⟩
    · rw [hH3, upd_ne (by rw [← hD]; exact Nat.ne_of_lt lt)]
      exact (f2 b hb).1
    · rw [h3, Heap.size_push]; exact Nat.lt_succ_of_lt lt
  have st3 : tn 0 s3.heap := T.keep _ _ _ st2 fun b _ o e => by rw [h3]; exact Heap.get?_push_of_some _ e
  obtain ⟨ce, hce⟩ : ∃ ce, ce = compEnvC scope (cellsFrom (s3.heap.objs.size + 1) scope.names (cloFrom X.env.cells scope.names [])) s3.heap.objs.size X.env := ⟨_, rfl⟩
  have cL : ce.locals = s3.heap.objs.size := by rw [hce]; rfl
  have B0 := block_start I3 ok hN f3
  rw [← hce] at B0
  obtain ⟨s4, hs4⟩ : ∃ s4 : Shared, s4 = { s3 with heap := pushCells (s3.heap.push { cls := .type "dict", data := .dict #[] }) scope.names } := ⟨_, rfl⟩
  have up : ∀ b o, s3.heap.get? b = some o → s4.heap.get? b = some o := fun b o e => by
    rw [hs4]; exact pushCells_keeps _ _ _ _ (Heap.get?_push_of_some _ e)
  rw [← hs4] at B0
  -- the pins of the def stand in the block
  have pn4 : ∀ p ∈ X.pn ++ [], s4.heap.get? p.1 = some p.2 ∧ H3 p.1 = none ∧ p.1 ≠ ce.locals ∧ p.1 ∉ frs X.stack ∧ ∀ v, p.2.data ≠ .cell v := by
    intro p hp
    rw [List.append_nil] at hp
    obtain ⟨a1, a2, a3, a4, a5⟩ := I3.pin p (List.mem_append_left _ hp)
    refine ⟨up _ _ a1, a2, ?_, fun z => ?_, a5⟩
    · rw [cL]; exact Nat.ne_of_lt (Heap.lt_size a1)
    · rcases List.mem_cons.mp (I3.stkSub p.1 z) with e | z
      · exact a3 e
      · exact a4 z
  have I4 : Inv (blkH X s3 H3 scope ce fp) [] (wipe σ (own.map (·.2))) H3 s4 :=
    ⟨blkH_ok B0.ok, B0.os, B0.bare, B0.base, B0.loc, B0.cell, B0.free, B0.freeC, pn4, B0.hok, B0.len⟩
  have hotB : L2H.HotC (blkH X s3 H3 scope ce fp) := hot
  have pg : PG (blkH X s3 H3 scope ce fp) tg g := by rw [hce]; exact hg _ _ _ _ _
  have pt : PTs (blkH X s3 H3 scope ce fp) ifs tt := by rw [hce]; exact ht _ _ _ _ _
  have pe : PE (blkH X s3 H3 scope ce fp) elt te := by rw [hce]; exact he _ _ _ _ _
  have st4 : tn 0 s4.heap := T.keep _ _ _ st3 fun b _ o e => up b o e
  have fpB : ∀ {σ' : L2.St} {H' : Hp} {s' : Shared}, Inv (blkH X s3 H3 scope ce fp) [] σ' H' s' → (∀ b ∈ fp, H' b = none) → ∀ b ∈ fp, FpOk (blkH X s3 H3 scope ce fp) [] H' b := by
    intro σ' H' s' I' hn b hb
    refine ⟨hn b hb, (I'.ok.exf b hb).1, I'.ok.exfs b hb, .inl hb, fun x c e => (I'.ok.exf b hb).2 x c e, fun p hp z => ?_⟩
    rw [List.append_nil] at hp
    exact (f3 b hb).1.2.2.2.2.2 p (List.mem_append_left _ hp) z
  suffices loop : codeAny (model X.prog X.w) X.A (.compLoop (.ListComp elt [⟨tg, iter, ifs, 0⟩] scope pos) 0 (.ref it) (.ref D) ce)
      (compPost (model X.prog X.w) X.A X.xe none (EP X pins σ Q) (.ref D) s3.heap.objs.size) s4 by
    have z := codeAny_compStart_list loop (T.self X.A 0 _ _ _ st4 loop)
    subst hs4
    subst hce
    subst hs3
    exact z
  refine compLoop_any (fun n s' => ∃ i H', Inv (blkH X s3 H3 scope ce fp) [] (wipe σ (own.map (·.2))) H' s' ∧ tn i s'.heap ∧ (∀ b ∈ fp, H' b = none) ∧ W i n H') ?_ m0
    ⟨0, H3, I4, st4, fun b hb => (f3 b hb).1.1, w0⟩
  rintro n s5 ⟨i, H5, I5, st5, n5, w5⟩
  rcases turn i n H5 w5 with ⟨stop, qq⟩ | ⟨go, Nx, hNx, step⟩
  · refine thnF (T.done (blkH X s3 H3 scope ce fp) rfl rfl rfl hotB i [] s5 _ H5 (fun _ _ => False) I5 (fpB I5 n5) st5 stop) fun r s6 hr => ?_
    obtain ⟨rfl, I6⟩ := hr
    have I7 : Inv X pins σ H5 s6 := I3.call' (ch := fp) I6.os I6.base I6.hok I6.bare fun b hb =>
      ⟨(f3 b hb).1.2.2.2.1, (f3 b hb).1.2.1, (f3 b hb).1.2.2.2.2.1, (f3 b hb).1.2.2.2.2.2⟩
    have nC : H5 s3.heap.objs.size = none := by rw [← cL]; exact I6.free
    obtain ⟨m, hn, _⟩ := I6.loc
    have hn2 : s6.heap.Ns s3.heap.objs.size m := by rw [← cL]; exact hn
    obtain ⟨f0, f1, f2', f3', f4, f5⟩ := I3.fpOk (Nat.le_refl _) nC
    exact ⟨m, hn2, fun h'' sb => ⟨.ref D, H5, I7.turned (t' := s6.toks) (fun b o hb e => (sb.2 b hb).trans e) f0 f1 f3' f4 f5, rfl, qq⟩⟩
  · refine thnF (T.item (blkH X s3 H3 scope ce fp) rfl rfl rfl hotB i [] s5 _ H5 (fun _ _ => False) I5 (fpB I5 n5) st5 go) fun r s6 hr => ?_
    obtain ⟨u, rfl, h6⟩ := hr
    refine thnF h6 fun _ s7 h7 => ?_
    obtain ⟨x, H7, I7, r7, y7, st7, n7⟩ := h7
    have I7p := I7.pinned (fpB I7 n7) (T.obj _ _ st7)
    refine thnF (pg.run _ s7 _ H7 x u _ I7p r7 (step x H7 y7)) fun _ s8 h8 => ?_
    obtain ⟨σ8, H8, I8, hw8, q8⟩ := h8
    refine thnF (pt.run _ s8 σ8 H8 _ I8 q8) fun b s9 h9 => ?_
    obtain ⟨H9, I9, q9⟩ := h9
    have fin : ∀ {s' : Shared} {H' : Hp}, Inv (blkH X s3 H3 scope ce fp) ([] ++ pinsAt fp s7.heap) σ8 H' s' → Nx H' →
        ∃ m, m < n ∧ ∃ i H', Inv (blkH X s3 H3 scope ce fp) [] (wipe σ (own.map (·.2))) H' s' ∧ tn i s'.heap ∧ (∀ b ∈ fp, H' b = none) ∧ W i m H' := by
      intro s' H' I' nx
      obtain ⟨m', hm, w'⟩ := hNx H' nx
      have pin' : ∀ b ∈ fp, ∀ o, s7.heap.get? b = some o → s'.heap.get? b = some o ∧ H' b = none := by
        intro b hb o e
        have z := I'.pin (b, o) (List.mem_append_right _ (List.mem_append_right _ (mem_pinsAt hb e)))
        exact ⟨z.1, z.2.1⟩
      refine ⟨m', hm, i + 1, H', (I'.unpinned (pins := [])).weak ?_ ?_, T.keep _ _ _ st7 fun b hb o e => (pin' b hb o e).1, ?_, w'⟩
      · rw [← hw8, wipe_length]
      · intro j v e
        rw [← hw8] at e
        exact (wipe_some e).1
      · intro b hb
        obtain ⟨o, e, _⟩ := T.obj _ _ st7 b hb
        exact (pin' b hb o e).2
    cases b with
    | false =>
      rw [if_neg Bool.false_ne_true] at q9 ⊢
      exact fin I9 q9
    | true =>
      rw [if_pos rfl] at q9 ⊢
      refine thnF (pe.run _ s9 σ8 H9 _ I9 q9) fun z s10 h10 => ?_
      obtain ⟨yv, H10, I10, r10, acc, hD10, hz10, nx⟩ := h10
      exact app_ok (X := blkH X s3 H3 scope ce fp) I10 hD10 hz10 r10 fun s11 I11 => fin I11 nx
end
end Tw
namespace Tw
open PySem PySem.Spec PyProof.Rows L2
/-! ### the refusals' classes -/
structure EA where
  wrap : Addr
  nw : Addr
  lw : Addr
  ns : Addr
  tw : Addr
  tf : Addr
  tm : Addr
  np : Addr
  nwd : Addr
  fl : Addr
  nb : Addr
/-- what the written part says of the class x, at C; wr: the address of WrapError -/
structure XC (K : PySem.W.Frag) (mg : Str → Option Value) (x : Str) (C wr : Addr) : Prop where
  g : mg x = some (.ref C)
  ex : PySem.W.excIn K C [.type "ValueError", .type "Exception", .type "BaseException", .type "object"] "ValueError.__new__" = true
  kp : PySem.W.keepIn K (.ref C) = true
  b : PySem.W.subIn K (.ref C) (.type "BaseException") = some true
  t : PySem.W.typeIn K (.ref C) = some (.type "type")
  m : PySem.W.exmOne K (.ref C) (.ref wr) = some true
  ve : PySem.W.kitOne K (.ref C) (.type "ValueError") = some true
  we : PySem.W.kitOne K (.ref C) (.ref wr) = some true
  c : ExcC K C
theorem XC.mk_raise {X : Cx} {x : Str} {C wr : Addr} (c : XC X.K X.mg x C wr) {m : Str} {j : Nat} {p p2 pos : Pos} (hg : Gl X x) (hdb : (x == ("__debug__" : Str)) = false := by decide) :
    L2N.PMk X (.Call (.Name x p) [.Constant (.str m) j p2] [] pos) (fun _ H Q => Q (.ref C) none H) :=
  L2N.pmk_own PySem.F.excBase_ValueError c.ex c.g c.kp (raises_own c.b c.t) hg hdb
/-- isinstance of an instance of D against the ten classes: only the i-th is its own -/
structure Kd (K : PySem.W.Frag) (e : EA) (D : Addr) (i : Nat) : Prop where
  k0 : PySem.W.kitOne K (.ref D) (.ref e.nw) = some (i == 0)
  k1 : PySem.W.kitOne K (.ref D) (.ref e.lw) = some (i == 1)
  k2 : PySem.W.kitOne K (.ref D) (.ref e.ns) = some (i == 2)
  k3 : PySem.W.kitOne K (.ref D) (.ref e.tw) = some (i == 3)
  k4 : PySem.W.kitOne K (.ref D) (.ref e.tf) = some (i == 4)
  k5 : PySem.W.kitOne K (.ref D) (.ref e.tm) = some (i == 5)
  k6 : PySem.W.kitOne K (.ref D) (.ref e.np) = some (i == 6)
  k7 : PySem.W.kitOne K (.ref D) (.ref e.nwd) = some (i == 7)
  k8 : PySem.W.kitOne K (.ref D) (.ref e.fl) = some (i == 8)
  k9 : PySem.W.kitOne K (.ref D) (.ref e.nb) = some (i == 9)
structure Xs (K : PySem.W.Frag) (mg : Str → Option Value) (e : EA) : Prop where
  g_wrap : mg "WrapError" = some (.ref e.wrap)
  c_NoWidth : XC K mg "NoWidth" e.nw e.wrap
  c_LongWord : XC K mg "LongWord" e.lw e.wrap
  c_NoStarts : XC K mg "NoStarts" e.ns e.wrap
  c_TooWide : XC K mg "TooWide" e.tw e.wrap
  c_TooFew : XC K mg "TooFew" e.tf e.wrap
  c_TooMany : XC K mg "TooMany" e.tm e.wrap
  c_NoPlace : XC K mg "NoPlace" e.np e.wrap
  c_NoWord : XC K mg "NoWord" e.nwd e.wrap
  c_Full : XC K mg "Full" e.fl e.wrap
  c_NoWayBack : XC K mg "NoWayBack" e.nb e.wrap
  d0 : Kd K e e.nw 0
  d1 : Kd K e e.lw 1
  d2 : Kd K e e.ns 2
  d3 : Kd K e e.tw 3
  d4 : Kd K e e.tf 4
  d5 : Kd K e e.tm 5
  d6 : Kd K e e.np 6
  d7 : Kd K e e.nwd 7
  d8 : Kd K e e.fl 8
  d9 : Kd K e e.nb 9
/-- the class of a refusal by its number -/
def EA.cls (e : EA) : Nat → Addr
  | 0 => e.nw
  | 1 => e.lw
  | 2 => e.ns
  | 3 => e.tw
  | 4 => e.tf
  | 5 => e.tm
  | 6 => e.np
  | 7 => e.nwd
  | 8 => e.fl
  | _ => e.nb
theorem Xs.d {K : PySem.W.Frag} {mg : Str → Option Value} {e : EA} (x : Xs K mg e) {i : Nat} (h : i < 10) : Kd K e (e.cls i) i := by
  match i, h with
  | 0, _ => exact x.d0
  | 1, _ => exact x.d1
  | 2, _ => exact x.d2
  | 3, _ => exact x.d3
  | 4, _ => exact x.d4
  | 5, _ => exact x.d5
  | 6, _ => exact x.d6
  | 7, _ => exact x.d7
  | 8, _ => exact x.d8
  | 9, _ => exact x.d9
theorem Xs.c {K : PySem.W.Frag} {mg : Str → Option Value} {e : EA} (x : Xs K mg e) {i : Nat} (h : i < 10) :
    ExcC K (e.cls i) ∧ PySem.W.exmOne K (.ref (e.cls i)) (.ref e.wrap) = some true ∧ PySem.W.kitOne K (.ref (e.cls i)) (.type "ValueError") = some true ∧
      PySem.W.kitOne K (.ref (e.cls i)) (.ref e.wrap) = some true := by
  have go : ∀ {y : Str} {C : Addr}, XC K mg y C e.wrap → ExcC K C ∧ PySem.W.exmOne K (.ref C) (.ref e.wrap) = some true ∧ PySem.W.kitOne K (.ref C) (.type "ValueError") = some true ∧
      PySem.W.kitOne K (.ref C) (.ref e.wrap) = some true := fun z => ⟨z.c, z.m, z.ve, z.we⟩
  match i, h with
  | 0, _ => exact go x.c_NoWidth
  | 1, _ => exact go x.c_LongWord
  | 2, _ => exact go x.c_NoStarts
  | 3, _ => exact go x.c_TooWide
  | 4, _ => exact go x.c_TooFew
  | 5, _ => exact go x.c_TooMany
  | 6, _ => exact go x.c_NoPlace
  | 7, _ => exact go x.c_NoWord
  | 8, _ => exact go x.c_Full
  | 9, _ => exact go x.c_NoWayBack

/-! ### defs that may raise -/
abbrev CXn (P : Program) (w : World) : CXT := L2N.CX P w
section
variable {P : Program} {w : World} {K : PySem.W.Frag} {mg : Str → Option Value} {base : Heap}
theorem At.okX {x : Str} {ps N : List Str} {st : Stmt} {k : Nat} {sp : Sp} (A : At K mg x ps st) (S : FnScope N ps (defScope st))
    (len : ∀ vs H Q E, sp vs H Q E → vs.length = ps.length)
    (hbody : ∀ (f cdv : _) (A : Around) (outer : List Env) (s : Shared) (H : Hp) (vs : List V) (Q : VK) (E : XK),
      Room k (A.deeper (envOfC x (defScope st) s.heap.objs.size f cdv)) → sp vs H Q E →
      ∃ t, PSs (cxOf (CXn P w) P w K mg base N x (defScope st) f cdv A outer s H E) (defBody st) t ∧
        t { nx := fun _ H' => Q .non H', rt := Q } (start N vs) H) :
    Ok P w K mg base (CXn P w) (k + 1) x ps sp := by
  obtain ⟨f, fd, g, F, b⟩ := A.ex
  obtain ⟨oc, od, kV, doc, pm, an, cdv, ct, osl, e, lk, hcd⟩ := F.ex
  subst e
  exact ⟨f, _, g, F.kp, b, fn_of lk hcd S len fun A outer s H vs Q E hr hsp => hbody f cdv A outer s H vs Q E hr hsp⟩
end
theorem passN {X : Cx} : Passes (CXn X.prog X.w) X E0 := fun _ _ _ _ _ _ _ h => by
  obtain ⟨_, _, _, _, _, _, _, _, _, _, _, _, z⟩ := h
  exact z.elim
theorem takesN {X : Cx} : L2N.Takes X (fun _ _ _ _ => False) := fun _ _ x => by
  obtain ⟨_, _, _, _, _, _, _, _, _, _, _, _, _, _, _, _, z⟩ := x
  exact z.elim
theorem passR {P : Program} {w : World} {K : PySem.W.Frag} {mg : Str → Option Value} {base : Heap} {N : List Str} {q : Str} {sc : Scope} {f : Addr} {cd : Value} {A : Around} {outer : List Env} {s : Shared} {H : Hp} {E : XK} :
    Passes (CXn P w) (cxOf (CXn P w) P w K mg base N q sc f cd A outer s H E) E :=
  L2N.passes_call (L2N.takes_of rfl rfl rfl rfl) fun _ _ _ _ h => h

/-! ### a def called with the exception that is handled -/
theorem call_isP {X : Cx} {D : Addr} {p : Addr × Obj} (C : ExcC X.K D) (hz : Zc (.ref D) none p.2) (hf : ∃ vs, p.2.data = .fields vs) (hp : p ∈ X.pn) :
    CallR X (.builtin "isinstance") (rIsE X.K D p.1) := by
  intro pins s σ H xs us Q I r h
  obtain ⟨c, cv, b, rfl, hcv, e, q⟩ := h
  obtain ⟨u1, u2, rfl, r1, r2⟩ := vals2 r
  cases r1
  have ec := hcv _ r2
  subst ec
  have hget := (I.pin p (List.mem_append_left _ hp)).1
  obtain ⟨vs, hv⟩ := hf
  obtain ⟨a, oe⟩ := p
  obtain ⟨oc, od, oda, osl⟩ := oe
  obtain ⟨h1, h2⟩ := hz
  dsimp only at h1 h2 hv hget ⊢
  subst h1 h2 hv
  refine PySem.W.kia_one (PySem.W.handS_kitx_exc C.hg C.hk C.hs C.hd C.ha C.hn C.ht C.hm) I.kIn ⟨hget, rfl, rfl, trivial⟩ e (fun z => nomatch z) ?_
  exact fun tk => ⟨.bl b, H, I.kept (t' := tk) fun _ _ z => z, rfl, q⟩
/-- in a suite: isinstance of what is handled, whatever class it has -/
theorem call_isQ {X : Cx} {a : Addr} {oe : Obj} {cls : Value} {d : Option Addr} {pn : List (Addr × Obj)} (hz : L2N.Zn cls d oe) (hf : ∃ vs, oe.data = .fields vs) :
    CallR (X.suite a ((a, oe) :: pn)) (.builtin "isinstance") (fun xs H Q => ∃ D c cv b, cls = .ref D ∧ d = none ∧ ExcC X.K D ∧ xs = [.ref a, c] ∧ (∀ u, RelV c u → u = cv) ∧
      PySem.W.kitOne X.K (.ref D) cv = some b ∧ Q (.bl b) H) := by
  intro pins s σ H xs us Q I r h
  obtain ⟨D, c, cv, b, rfl, rfl, hc, e1, e2, e3, q⟩ := h
  exact call_isP (X := X.suite a ((a, oe) :: pn)) (p := (a, oe)) hc hz.zc hf List.mem_cons_self pins s σ H xs us Q I r ⟨c, cv, b, e1, e2, e3, q⟩
/-- what such a def gives: the number n for an instance of D -/
structure KindFn (P : Program) (w : World) (K : PySem.W.Frag) (mg : Str → Option Value) (base : Heap) (k : Nat) (f : Addr) (fd : FuncData) (x : Str) (D : Addr) (n : Int) : Prop where
  run : ∀ (A : Around) (outer : List Env) (s : Shared) (H : Hp) (args : Args) (E : XK) (p : Addr × Obj) (Q : VK), L2H.RoomH k A → L2H.Hot1 A p → L2H.PinOk outer H s p → Zc (.ref D) none p.2 →
    Env0 P w K mg base A outer s H → BindsTo s fd args [(x, .ref p.1)] → (∀ H', Same H H' → Q (.int n) H') → codeAny (model P w) A (.call (.ref f) args) (CR CX0 outer P w H s Q E) s
theorem kindFn_of {P : Program} {w : World} {K : PySem.W.Frag} {mg : Str → Option Value} {base : Heap} {k : Nat} {f : Addr} {x y : Str} {st : Stmt} {N : List Str} {D : Addr} {n : Int} {fd : FuncData}
    (F : Fun K x x st f fd) (S : FnScope N [y] (defScope st))
    (body : ∀ (cdv : Value) (A : Around) (outer : List Env) (s : Shared) (H : Hp) (E : XK) (p : Addr × Obj) (Q : VK), L2H.Hot1 A p → Zc (.ref D) none p.2 → L2H.RoomH k (A.deeper (envOfC x (defScope st) s.heap.objs.size f cdv)) →
      (∀ H', Same H H' → Q (.int n) H') →
      ∃ t, PSs (L2H.cxH CX0 P w K mg base N x (defScope st) f cdv A outer s H E p) (defBody st) t ∧ t { nx := fun _ H' => Q .non H', rt := Q } (L2.start N [.ref p.1]) H) :
    KindFn P w K mg base (k + 1) f fd y D n := by
  obtain ⟨oc, od, kV, doc, pm, an, cdv, ct, osl, e, lk, hcd⟩ := F.ex
  subst e
  refine ⟨fun A outer s H args E p Q hr hot hpin hz e0 hb hq => ?_⟩
  obtain ⟨t, ht, hq2⟩ := body cdv A outer s H E p Q hot hz (hr.deeper _) hq
  have rv : Vals [V.ref p.1] [Value.ref p.1] := .cons rfl .nil
  have keep : ∀ b o, base.get? b = some o → s.heap.get? b = some o := fun b o e => (e0.bs b o e).1
  have par : ∀ z ∈ ([y] : List Str).zip [Value.ref p.1], (defScope st).names.lookup z.1 = some .local ∨
      ((defScope st).names.lookup z.1 = some .cell ∧ ((cellsFrom (s.heap.objs.size + 1) (defScope st).names []).lookup z.1).isSome = true) := by
    rintro ⟨m, v⟩ hm
    rcases S.par m (List.of_mem_zip hm).1 with g | g
    · exact .inl g
    · exact .inr ⟨g, PySem.W.cellsFrom_some _ _ _ (.inl g)⟩
  have KX := e0.mod.kin.keeps keep
  refine codeAny_call_function hr.depth (KX _ _ lk) rfl S.co S.gen rfl (PySem.W.codeRec_of KX hcd) ?_
  refine hb _ _ _ _ ?_
  refine wpAny_newFunctionEnv_cells S.kind par fun env he s1 xx => ?_
  subst he
  refine ⟨(e0.mod.nolimit.keeps keep).keeps xx.toInCall.keep, codeAny_func ?_⟩
  have I := L2H.inv_startH (CX := CX0) (E := E) (P := P) (mg := mg) (f := f) (cd := cdv) (qual := x) S hpin e0 (vs := [V.ref p.1]) rfl rv xx
  refine wpAny_mono (ht.run [] s1 _ H _ I hq2) (fun fl s' hs => ?_) fun e s' hs => hs
  cases fl with
  | ret u =>
    obtain ⟨v, σ', H', J, rw', q⟩ := hs
    exact ⟨v, H', J.os, J.bare, J.base, J.hok, rw', q⟩
  | next =>
    obtain ⟨σ', H', J, q⟩ := hs
    exact ⟨.non, H', J.os, J.bare, J.base, J.hok, rfl, q⟩
  | brk => exact hs.elim fun _ z => z.elim fun _ z => False.elim z.2
  | cont => exact hs.elim fun _ z => z.elim fun _ z => False.elim z.2
/-- .. for each of the ten classes -/
structure Kinds (P : Program) (w : World) (K : PySem.W.Frag) (mg : Str → Option Value) (base : Heap) (e : EA) (k : Nat) (x y : Str) : Prop where
  ex : ∃ f fd, mg x = some (.ref f) ∧ PySem.W.keepIn K (.ref f) = true ∧ Binds K fd [y] [] ∧ ∀ i, i < 10 → KindFn P w K mg base k f fd y (e.cls i) (11 + i)
/-- its call in a suite -/
theorem pe_kind {X : Cx} {a : Addr} {oe : Obj} {cls : Value} {d : Option Addr} {pn : List (Addr × Obj)} {ea : EA} {k j : Nat} {x y : Str} {e : Expr} {t : TA} {q pos : Pos}
    (G : Kinds X.prog X.w X.K X.mg X.base ea k x y) (hr : Room j X.A) (hkj : k ≤ j) (hz : L2N.Zn cls d oe) (hf : ∃ vs, oe.data = .fields vs)
    (ha : PA (X.suite a ((a, oe) :: pn)) [e] t) (hg : Gl (X.suite a ((a, oe) :: pn)) x := by rfl) (hdb : (x == ("__debug__" : Str)) = false := by decide)
    (he : starEach (e :: []) (X.suite a ((a, oe) :: pn)).env = (false, eval e (X.suite a ((a, oe) :: pn)).env) :: starEach [] (X.suite a ((a, oe) :: pn)).env := by rfl)
    (hpl : (backTo pos (starEach [] (X.suite a ((a, oe) :: pn)).env)).any (·.1) = false := by rfl) :
    PE (X.suite a ((a, oe) :: pn)) (.Call (.Name x q) [e] [] pos)
      (fun σ H Q => t σ H fun vs H1 => ∃ i, i < 10 ∧ cls = .ref (ea.cls i) ∧ d = none ∧ vs = [.ref a] ∧ ∀ H', Same H1 H' → Q (.int (11 + (i : Nat))) H') := by
  obtain ⟨f, fd, gf, kp, hb, G⟩ := G.ex
  constructor
  intro pins s σ H Q I h
  refine wpAny_Call_Name_kw (ld_glob I hg gf ?_ hdb)
  refine PySem.W.callWith_K (h₀ := X.base) I.ok.mod.kin kp (thn (ha.run pos pins s σ H _ I h) fun us s1 hh => ?_) he hpl
  obtain ⟨vs, H1, I1, rv, i, hi, rfl, rfl, rfl, hq⟩ := hh
  refine ⟨I1.kIn, ?_⟩
  cases rv with
  | cons r1 rr =>
    cases rr
    cases r1
    have b := hb s1 [Value.ref a] I1.kIn rfl
    have P1 := I1.pin (a, oe) (List.mem_append_left _ List.mem_cons_self)
    have hpin : L2H.PinOk (X.suite a ((a, oe) :: pn)).stack H1 s1 (a, oe) := by
      refine ⟨P1.1, P1.2.1, fun hm => ?_, P1.2.2.2.2⟩
      rcases List.mem_cons.mp (I1.stkSub a hm) with z | z
      · exact P1.2.2.1 z
      · exact P1.2.2.2.1 z
    obtain ⟨v1, hv1⟩ := hf
    have hot : L2H.Hot1 (X.suite a ((a, oe) :: pn)).A (a, oe) := ⟨rfl, v1, hv1, hz.2.2 v1 hv1⟩
    have R := (G i hi).run (X.suite a ((a, oe) :: pn)).A (X.suite a ((a, oe) :: pn)).stack s1 H1 ⟨[.ref a], []⟩ E0 (a, oe) Q ((L2H.roomH_of hr).mono hkj |> fun z => ⟨z.dp, z.un⟩) hot hpin hz.zc I1.env0 b hq
    refine wpAny_call (codeAny_mono R fun r s' hq' => ?_)
    cases r with
    | error e => exact hq'.elim
    | ok fl =>
      cases fl with
      | ret u => exact I1.after hq'
      | next => exact hq'.elim
      | brk => exact hq'.elim
      | cont => exact hq'.elim
end Tw
namespace Tw
open PySem PySem.Spec PyProof.Rows L2
theorem kit_ref {K : PySem.W.Frag} {D C : Addr} {b : Bool} (hb : D = C → b = true) (h1 : (PySem.W.clsIn K C).isSome = true) (h2 : PySem.W.typeIn K (.ref C) = some (.type "type"))
    (h3 : PySem.W.subIn K (.ref D) (.ref C) = some b) : PySem.W.kitOne K (.ref D) (.ref C) = some b := by
  unfold PySem.W.kitOne
  by_cases e : D = C
  · subst e
    rw [if_pos (by simp), hb rfl]
  · rw [if_neg (fun z => e (Value.ref.inj (eq_of_beq z)))]
    simp only [PySem.W.kitCls, h1, h2, h3]
    first | rfl | simp
theorem kit_type {K : PySem.W.Frag} {D : Addr} {n : String} {b : Bool} (h1 : PySem.W.kitMeta n = true) (h3 : PySem.W.subIn K (.ref D) (.type n) = some b) : PySem.W.kitOne K (.ref D) (.type n) = some b := by
  unfold PySem.W.kitOne
  rw [if_neg (fun z => by cases eq_of_beq z)]
  simp only [PySem.W.kitCls, h1, h3]
  first | rfl | simp
theorem xc_mk {K : PySem.W.Frag} {h : Heap} {mg : Str → Option Value} {x : Str} {C wr : Addr} (X : K.In h) (G : h.Ns mainGlobals mg)
    (a : PySem.W.nsIn K mainGlobals x = some (some (.ref C)))
    (ex : PySem.W.excIn K C [.type "ValueError", .type "Exception", .type "BaseException", .type "object"] "ValueError.__new__" = true)
    (kp : PySem.W.keepIn K (.ref C) = true) (b : PySem.W.subIn K (.ref C) (.type "BaseException") = some true) (t : PySem.W.typeIn K (.ref C) = some (.type "type"))
    (m1 : PySem.W.subIn K (.ref wr) (.type "BaseException") = some true) (m2 : PySem.W.hasDictIn K wr = true) (m3 : PySem.W.typeIn K (.ref wr) = some (.type "type")) (m4 : PySem.W.subIn K (.ref C) (.ref wr) = some true)
    (ve : PySem.W.subIn K (.ref C) (.type "ValueError") = some true) (wc : (PySem.W.clsIn K wr).isSome = true)
    (g1 : PySem.W.findIn K (.ref C) "__getattribute__" = some (some (.builtin "BaseException.__getattribute__"))) (g2 : PySem.W.findIn K (.ref C) "__getattr__" = some none)
    (g4 : PySem.W.hasDictIn K C = true) (g5 : PySem.W.findIn K (.ref C) "__class__" = some (some (.builtin "object.__class__")))
    (g6 : PySem.W.specialIn K (.builtin "object.__class__") "__get__" = some (some (.builtin "getset_descriptor.__get__"))) (g7 : PySem.W.takesIn K (.builtin "object.__class__") = some true)
    (g8 : PySem.W.mroIn K C (.type "object") = some true) : XC K mg x C wr :=
  ⟨PySem.W.mg_of X G a, ex, kp, b, t, PySem.W.exm_ref m1 m2 m3 m4, kit_type (by decide +kernel) ve, kit_ref (fun _ => rfl) wc m3 m4, ⟨g1, g2, b, g4, g5, g6, g7, g8⟩⟩
structure Sd (K : PySem.W.Frag) (e : EA) (D : Addr) (i : Nat) : Prop where
  k0 : PySem.W.subIn K (.ref D) (.ref e.nw) = some (i == 0)
  k1 : PySem.W.subIn K (.ref D) (.ref e.lw) = some (i == 1)
  k2 : PySem.W.subIn K (.ref D) (.ref e.ns) = some (i == 2)
  k3 : PySem.W.subIn K (.ref D) (.ref e.tw) = some (i == 3)
  k4 : PySem.W.subIn K (.ref D) (.ref e.tf) = some (i == 4)
  k5 : PySem.W.subIn K (.ref D) (.ref e.tm) = some (i == 5)
  k6 : PySem.W.subIn K (.ref D) (.ref e.np) = some (i == 6)
  k7 : PySem.W.subIn K (.ref D) (.ref e.nwd) = some (i == 7)
  k8 : PySem.W.subIn K (.ref D) (.ref e.fl) = some (i == 8)
  k9 : PySem.W.subIn K (.ref D) (.ref e.nb) = some (i == 9)
theorem cls_some {K : PySem.W.Frag} {C : Addr} (h : PySem.W.hasDictIn K C = true) : (PySem.W.clsIn K C).isSome = true := by
  obtain ⟨cd, hc, _⟩ := PySem.W.any_some h
  rw [hc]; rfl
theorem kit_refX {K : PySem.W.Frag} {mg : Str → Option Value} {x : Str} {D C wr : Addr} {b : Bool} (c : XC K mg x C wr) (dg : PySem.W.subIn K (.ref C) (.ref C) = some true)
    (h3 : PySem.W.subIn K (.ref D) (.ref C) = some b) : PySem.W.kitOne K (.ref D) (.ref C) = some b := by
  refine kit_ref (fun e => ?_) (cls_some c.c.hd) c.t h3
  subst e
  rw [dg] at h3
  exact (Option.some.inj h3).symm
theorem xs_mk {K : PySem.W.Frag} {h : Heap} {mg : Str → Option Value} {wr a0 a1 a2 a3 a4 a5 a6 a7 a8 a9 : Addr} (X : K.In h) (G : h.Ns mainGlobals mg)
    (w : PySem.W.nsIn K mainGlobals "WrapError" = some (some (.ref wr)))
    (c0 : XC K mg "NoWidth" a0 wr)
    (c1 : XC K mg "LongWord" a1 wr)
    (c2 : XC K mg "NoStarts" a2 wr)
    (c3 : XC K mg "TooWide" a3 wr)
    (c4 : XC K mg "TooFew" a4 wr)
    (c5 : XC K mg "TooMany" a5 wr)
    (c6 : XC K mg "NoPlace" a6 wr)
    (c7 : XC K mg "NoWord" a7 wr)
    (c8 : XC K mg "Full" a8 wr)
    (c9 : XC K mg "NoWayBack" a9 wr)
    (d0 : Sd K ⟨wr, a0, a1, a2, a3, a4, a5, a6, a7, a8, a9⟩ a0 0)
    (d1 : Sd K ⟨wr, a0, a1, a2, a3, a4, a5, a6, a7, a8, a9⟩ a1 1)
    (d2 : Sd K ⟨wr, a0, a1, a2, a3, a4, a5, a6, a7, a8, a9⟩ a2 2)
    (d3 : Sd K ⟨wr, a0, a1, a2, a3, a4, a5, a6, a7, a8, a9⟩ a3 3)
    (d4 : Sd K ⟨wr, a0, a1, a2, a3, a4, a5, a6, a7, a8, a9⟩ a4 4)
    (d5 : Sd K ⟨wr, a0, a1, a2, a3, a4, a5, a6, a7, a8, a9⟩ a5 5)
    (d6 : Sd K ⟨wr, a0, a1, a2, a3, a4, a5, a6, a7, a8, a9⟩ a6 6)
    (d7 : Sd K ⟨wr, a0, a1, a2, a3, a4, a5, a6, a7, a8, a9⟩ a7 7)
    (d8 : Sd K ⟨wr, a0, a1, a2, a3, a4, a5, a6, a7, a8, a9⟩ a8 8)
    (d9 : Sd K ⟨wr, a0, a1, a2, a3, a4, a5, a6, a7, a8, a9⟩ a9 9)
    : Xs K mg ⟨wr, a0, a1, a2, a3, a4, a5, a6, a7, a8, a9⟩ := by
  have kd : ∀ {D : Addr} {i : Nat}, Sd K ⟨wr, a0, a1, a2, a3, a4, a5, a6, a7, a8, a9⟩ D i → Kd K ⟨wr, a0, a1, a2, a3, a4, a5, a6, a7, a8, a9⟩ D i := fun s => ⟨kit_refX c0 d0.k0 s.k0, kit_refX c1 d1.k1 s.k1, kit_refX c2 d2.k2 s.k2, kit_refX c3 d3.k3 s.k3, kit_refX c4 d4.k4 s.k4, kit_refX c5 d5.k5 s.k5, kit_refX c6 d6.k6 s.k6, kit_refX c7 d7.k7 s.k7, kit_refX c8 d8.k8 s.k8, kit_refX c9 d9.k9 s.k9⟩
  exact ⟨PySem.W.mg_of X G w, c0, c1, c2, c3, c4, c5, c6, c7, c8, c9, kd d0, kd d1, kd d2, kd d3, kd d4, kd d5, kd d6, kd d7, kd d8, kd d9⟩
end Tw
namespace Tw
open PySem PySem.Spec PyProof.Rows L2
/-! ### words -/
/-- a drawn word -/
structure Wd (w : List Nat) : Prop where
  ne : w ≠ []
  le : w.length ≤ 300
  sg : ∀ c ∈ w, 33 ≤ c ∧ c ≤ 126
theorem Wd.plain {w : List Nat} (h : Wd w) : plainTx w := fun c hc => by have := h.sg c hc; omega
theorem Wd.pos {w : List Nat} (h : Wd w) : 1 ≤ w.length := by
  have := h.ne
  cases w with
  | nil => exact absurd rfl this
  | cons _ _ => simp
theorem rep_sign (c n : Nat) : (List.replicate n [c]).flatten = List.replicate n c := by
  induction n with
  | zero => rfl
  | succ n ih => rw [List.replicate_succ, List.flatten_cons, ih, List.replicate_succ]; rfl
theorem wd_flatten {ws : List (List Nat)} (h1 : 1 ≤ ws.length) (h2 : ws.length ≤ 300) (h : ∀ x ∈ ws, x.length = 1 ∧ ∀ c ∈ x, 33 ≤ c ∧ c ≤ 126) : Wd ws.flatten := by
  have hl : ws.flatten.length = ws.length := by
    rw [List.length_flatten]
    have : ws.map List.length = ws.map fun _ => 1 := List.map_congr_left fun x hx => (h x hx).1
    rw [this, List.map_const', List.sum_replicate_nat]
    omega
  refine ⟨fun e => ?_, by omega, fun c hc => ?_⟩
  · rw [e] at hl; simp at hl; omega
  · obtain ⟨x, hx, hc⟩ := List.mem_flatten.mp hc
    exact (h x hx).2 c hc
/-- a list of drawn words -/
def Wds (ws : List (List Nat)) : Prop := ws.length ≤ 1600 ∧ ∀ x ∈ ws, Wd x
theorem Wds.flat {ws : List (List Nat)} (h : Wds ws) : (vts ws).all flat = true := flat_vts fun x hx => (h.2 x hx).plain
theorem total_le {ws : List (List Nat)} {b : Nat} (h : ∀ x ∈ ws, x.length ≤ b) : total ws ≤ ws.length * b := by
  induction ws with
  | nil => simp [total]
  | cons w r ih =>
    have h1 := ih fun x hx => h x (List.mem_cons_of_mem _ hx)
    have h2 := h w List.mem_cons_self
    simp only [total, List.map_cons, List.sum_cons, List.length_cons, Nat.succ_mul] at h1 ⊢
    omega
/-- the size of a line of words -/
def lsz (ws : List (List Nat)) : Nat := total ws + (ws.length - 1)
theorem jn_sp : ∀ ws : List (List Nat), (jn [32] ws).length = lsz ws
  | [] => rfl
  | [p] => by simp [jn, lsz, total]
  | p :: q :: r => by
    have h := jn_sp (q :: r)
    show (p ++ ([32] ++ jn [32] (q :: r))).length = _
    rw [List.length_append, List.length_append, h]
    simp only [lsz, total, List.map_cons, List.sum_cons, List.length_cons, List.length_nil]
    omega
/-- the words from a on, up to b -/
def seg (ws : List (List Nat)) (a b : Nat) : List (List Nat) := (ws.drop a).take (b - a)
def size (ws : List (List Nat)) (a b : Nat) : Nat := lsz (seg ws a b)
theorem total_app (a b : List (List Nat)) : total (a ++ b) = total a + total b := by simp [total]
theorem seg_length (ws : List (List Nat)) {a b : Nat} (hb : b ≤ ws.length) : (seg ws a b).length = b - a := by
  unfold seg
  rw [List.length_take, List.length_drop]
  omega
theorem seg_snoc (ws : List (List Nat)) {a b : Nat} (hab : a ≤ b) (hb : b < ws.length) : seg ws a (b + 1) = seg ws a b ++ [ws[b]] := by
  unfold seg
  have e : b + 1 - a = (b - a) + 1 := by omega
  rw [e, List.take_add_one, List.getElem?_drop]
  have e2 : a + (b - a) = b := by omega
  rw [e2, List.getElem?_eq_getElem hb]
  rfl
theorem size_snoc (ws : List (List Nat)) {a b : Nat} (hab : a < b) (hb : b < ws.length) : size ws a (b + 1) = size ws a b + 1 + ws[b].length := by
  unfold size lsz
  have l1 := seg_length ws (a := a) (b := b) (by omega)
  rw [seg_snoc ws (by omega) hb, total_app, List.length_append, l1]
  simp only [total, List.map_cons, List.map_nil, List.sum_cons, List.sum_nil, List.length_cons, List.length_nil]
  omega
theorem size_one (ws : List (List Nat)) {a : Nat} (h : a < ws.length) : size ws a (a + 1) = ws[a].length := by
  unfold size lsz
  rw [seg_snoc ws (Nat.le_refl a) h]
  have e : seg ws a a = [] := by unfold seg; simp
  rw [e]
  simp [total]
theorem size_zero (ws : List (List Nat)) (a : Nat) : size ws a a = 0 := by
  unfold size seg lsz
  simp [total]
/-- the longest word's size -/
def longest (ws : List (List Nat)) : Nat := ws.foldl (fun m w => max m w.length) 0
theorem longest_app (a : List (List Nat)) (w : List Nat) : longest (a ++ [w]) = max (longest a) w.length := by
  simp [longest]
theorem longest_ge {ws : List (List Nat)} {w : List Nat} (hw : w ∈ ws) : w.length ≤ longest ws := by
  have key : ∀ (ws : List (List Nat)) (m : Nat), m ≤ ws.foldl (fun m w => max m w.length) m ∧ ∀ w ∈ ws, w.length ≤ ws.foldl (fun m w => max m w.length) m := by
    intro ws
    induction ws with
    | nil => intro m; exact ⟨Nat.le_refl _, fun _ h => by cases h⟩
    | cons x r ih =>
      intro m
      obtain ⟨h1, h2⟩ := ih (max m x.length)
      refine ⟨Nat.le_trans (Nat.le_max_left _ _) h1, fun w hw => ?_⟩
      rcases List.mem_cons.mp hw with e | hw
      · rw [e]; exact Nat.le_trans (Nat.le_max_right _ _) h1
      · exact h2 w hw
  exact (key ws 0).2 w hw
theorem longest_le {ws : List (List Nat)} {b : Nat} (h : ∀ w ∈ ws, w.length ≤ b) : longest ws ≤ b := by
  have key : ∀ (ws : List (List Nat)) (m : Nat), m ≤ b → (∀ w ∈ ws, w.length ≤ b) → ws.foldl (fun m w => max m w.length) m ≤ b := by
    intro ws
    induction ws with
    | nil => intro m hm _; exact hm
    | cons x r ih =>
      intro m hm h
      exact ih _ (Nat.max_le.mpr ⟨hm, h x List.mem_cons_self⟩) fun w hw => h w (List.mem_cons_of_mem _ hw)
  exact key ws 0 (Nat.zero_le _) h
theorem longest_wds {ws : List (List Nat)} (h : Wds ws) : longest ws ≤ 300 := longest_le fun w hw => (h.2 w hw).le
/-- of bounded words: sums fit -/
theorem seg_mem {ws : List (List Nat)} {a b : Nat} {x : List Nat} (h : x ∈ seg ws a b) : x ∈ ws := List.mem_of_mem_drop (List.mem_of_mem_take h)
theorem size_bound {ws : List (List Nat)} (h : Wds ws) (a b : Nat) : size ws a b ≤ 481600 := by
  unfold size lsz
  have l : (seg ws a b).length ≤ 1600 := by
    unfold seg
    rw [List.length_take, List.length_drop]
    have := h.1
    omega
  have t : total (seg ws a b) ≤ (seg ws a b).length * 300 := total_le fun x hx => (h.2 x (seg_mem hx)).le
  omega
end Tw
namespace Tw
open PySem PySem.Spec PyProof.Rows L2
/-- words that fit in memory, of signs that are signs -/
structure Bw (ws : List (List Nat)) : Prop where
  le : ws.length ≤ 100000
  tot : total ws ≤ 10000000
  pl : ∀ x ∈ ws, plainTx x
theorem Wds.bw {ws : List (List Nat)} (h : Wds ws) : Bw ws :=
  ⟨by have := h.1; omega, by have := total_le (b := 300) fun x hx => (h.2 x hx).le; have := h.1; omega, fun x hx => (h.2 x hx).plain⟩
theorem Bw.flat {ws : List (List Nat)} (h : Bw ws) : (vts ws).all flat = true := flat_vts h.pl
theorem Bw.wl {ws : List (List Nat)} (h : Bw ws) {x : List Nat} (hx : x ∈ ws) : x.length ≤ 10000000 := by
  have h1 : x.length ≤ total ws := le_sum_mem (List.mem_map.mpr ⟨x, hx, rfl⟩)
  have := h.tot
  omega
theorem total_take (ws : List (List Nat)) (n : Nat) : total (ws.take n) ≤ total ws := by
  have h := total_app (ws.take n) (ws.drop n)
  rw [List.take_append_drop] at h
  omega
theorem total_drop (ws : List (List Nat)) (n : Nat) : total (ws.drop n) ≤ total ws := by
  have h := total_app (ws.take n) (ws.drop n)
  rw [List.take_append_drop] at h
  omega
theorem total_seg (ws : List (List Nat)) (a b : Nat) : total (seg ws a b) ≤ total ws := Nat.le_trans (total_take _ _) (total_drop _ _)
theorem seg_le (ws : List (List Nat)) (a b : Nat) : (seg ws a b).length ≤ ws.length := by
  unfold seg
  rw [List.length_take, List.length_drop]
  omega
theorem Bw.size {ws : List (List Nat)} (h : Bw ws) (a b : Nat) : size ws a b ≤ 10100000 := by
  have h1 := total_seg ws a b
  have h2 := seg_le ws a b
  have := h.le
  have := h.tot
  unfold Tw.size lsz
  omega
theorem Bw.take {ws : List (List Nat)} (h : Bw ws) (n : Nat) : Bw (ws.take n) :=
  ⟨by rw [List.length_take]; have := h.le; omega, by have := total_take ws n; have := h.tot; omega, fun x hx => h.pl x (List.mem_of_mem_take hx)⟩
theorem Wds.take {ws : List (List Nat)} (h : Wds ws) (n : Nat) : Wds (ws.take n) :=
  ⟨by rw [List.length_take]; have := h.1; omega, fun x hx => h.2 x (List.mem_of_mem_take hx)⟩
/-- a joined line's length -/
theorem sum_tx (ws : List (List Nat)) : ((ws.map tx).map (·.length)).sum = total ws := by
  unfold total
  rw [List.map_map]
  exact congrArg List.sum (List.map_congr_left fun x _ => tx_len x)
theorem map_vt (ws : List (List Nat)) : (ws.map tx).map V.str = vts ws := by
  rw [List.map_map]; rfl
/-- the place of the first word that is longer -/
def vlong (ws : List (List Nat)) (n : Int) : V := match ws.findIdx? (fun w => decide (n < (w.length : Int))) with
  | none => .non
  | some k => .int k
theorem vlong_some {ws : List (List Nat)} {n : Int} {i : Nat} (hi : i < ws.length) (h1 : ∀ j (h : j < i), ((ws[j]'(by omega)).length : Int) ≤ n) (h2 : n < (ws[i].length : Int)) : vlong ws n = .int i := by
  have e : ws.findIdx? (fun w => decide (n < (w.length : Int))) = some i := by
    rw [List.findIdx?_eq_some_iff_getElem]
    refine ⟨hi, decide_eq_true h2, fun j hj => ?_⟩
    have := h1 j hj
    simp only [decide_eq_true_eq]
    omega
  unfold vlong
  rw [e]
theorem vlong_none {ws : List (List Nat)} {n : Int} (h : ∀ w ∈ ws, (w.length : Int) ≤ n) : vlong ws n = .non := by
  have e : ws.findIdx? (fun w => decide (n < (w.length : Int))) = none := by
    rw [List.findIdx?_eq_none_iff]
    intro w hw
    have := h w hw
    exact decide_eq_false (by omega)
  unfold vlong
  rw [e]
theorem vlong_cases (ws : List (List Nat)) (n : Int) : (vlong ws n = .non ∧ ∀ w ∈ ws, (w.length : Int) ≤ n) ∨ (∃ k : Nat, k < ws.length ∧ vlong ws n = .int k ∧ ∃ w ∈ ws, n < (w.length : Int)) := by
  unfold vlong
  cases e : ws.findIdx? (fun w => decide (n < (w.length : Int))) with
  | none =>
    refine .inl ⟨rfl, fun w hw => ?_⟩
    have := (List.findIdx?_eq_none_iff.mp e) w hw
    have := of_decide_eq_false this
    omega
  | some k =>
    obtain ⟨hk, h1, _⟩ := List.findIdx?_eq_some_iff_getElem.mp e
    exact .inr ⟨k, hk, rfl, ws[k], List.getElem_mem hk, of_decide_eq_true h1⟩
end Tw
namespace Tw
open PySem PySem.Spec PyProof.Rows L2
/-! ### starts of lines -/
/-- from place a on, starts of lines of n words -/
def Ch (n : Nat) : Nat → List Nat → Prop
  | a, [] => a = n
  | a, b :: r => b = a ∧ ∃ e, a < e ∧ e ≤ n ∧ Ch n e r
def toI (ks : List Nat) : List Int := ks.map fun k => ((k : Nat) : Int)
def good (ss : List Int) (n : Nat) : Prop := ∃ ks : List Nat, ss = toI ks ∧ Ch n 0 ks
/-- begins and ends of the lines -/
def pairs (n : Nat) (ks : List Nat) : List (Nat × Nat) := ks.zip (ks.drop 1 ++ [n])
theorem toI_inj {a b : List Nat} (h : toI a = toI b) : a = b := by
  induction a generalizing b with
  | nil => cases b with
    | nil => rfl
    | cons y s => cases h
  | cons x r ih =>
    cases b with
    | nil => cases h
    | cons y s =>
      have h' : ((x : Nat) : Int) = (y : Nat) ∧ toI r = toI s := by
        have := List.cons.inj h
        exact this
      rw [ih h'.2, Int.ofNat_inj.mp h'.1]
theorem toI_length (ks : List Nat) : (toI ks).length = ks.length := List.length_map _
theorem toI_get {ks : List Nat} {k x : Nat} (h : ks[k]? = some x) : (toI ks)[k]? = some (x : Int) := by unfold toI; rw [List.getElem?_map, h]; rfl
theorem toI_app (a b : List Nat) : toI (a ++ b) = toI a ++ toI b := List.map_append
theorem toI_drop (a : List Nat) (k : Nat) : (toI a).drop k = toI (a.drop k) := by unfold toI; rw [List.map_drop]
theorem Ch.le {n : Nat} : ∀ {ks : List Nat} {a : Nat}, Ch n a ks → a ≤ n
  | [], a, h => Nat.le_of_eq h
  | b :: r, a, h => by obtain ⟨_, e, h1, h2, _⟩ := h; omega
theorem pairs_length (n : Nat) (ks : List Nat) : (pairs n ks).length = ks.length := by
  unfold pairs; rw [List.length_zip, List.length_append, List.length_drop, List.length_singleton]; omega
theorem pairs_one (n a : Nat) : pairs n [a] = [(a, n)] := rfl
theorem pairs_cons (n a b : Nat) (r : List Nat) : pairs n (a :: b :: r) = (a, b) :: pairs n (b :: r) := rfl
theorem pairs_get {n : Nat} {ks : List Nat} {k : Nat} {p : Nat × Nat} (h : (pairs n ks)[k]? = some p) : ks[k]? = some p.1 ∧ (ks.drop 1 ++ [n])[k]? = some p.2 := by
  unfold pairs at h
  exact List.getElem?_zip_eq_some.mp h
theorem Ch.pairs {n : Nat} : ∀ {ks : List Nat} {a : Nat}, Ch n a ks → ∀ p ∈ Tw.pairs n ks, a ≤ p.1 ∧ p.1 < p.2 ∧ p.2 ≤ n
  | [], a, _, p, hp => nomatch hp
  | [b], a, h, p, hp => by
    obtain ⟨rfl, e, h1, h2, h3⟩ := h
    rw [pairs_one, List.mem_singleton] at hp
    subst hp
    have : e = n := h3
    subst this
    exact ⟨Nat.le_refl _, h1, h2⟩
  | b :: c :: r, a, h, p, hp => by
    obtain ⟨rfl, e, h1, h2, h3⟩ := h
    rw [pairs_cons] at hp
    have hc : c = e := h3.1
    rcases List.mem_cons.mp hp with z | z
    · subst z; exact ⟨Nat.le_refl _, by omega, by omega⟩
    · have := Ch.pairs h3 p z
      exact ⟨by omega, this.2⟩
theorem Ch.lt {n : Nat} {ks : List Nat} {a : Nat} (h : Ch n a ks) {k : Nat} (hk : k ∈ ks) : k < n := by
  obtain ⟨i, hi, rfl⟩ := List.mem_iff_getElem.mp hk
  have hp : i < (Tw.pairs n ks).length := by rw [pairs_length]; exact hi
  have := pairs_get (List.getElem?_eq_getElem hp)
  rw [List.getElem?_eq_getElem hi] at this
  have h2 := h.pairs _ (List.getElem_mem hp)
  have h3 := Option.some.inj this.1
  omega
theorem Ch.len {n : Nat} : ∀ {ks : List Nat} {a : Nat}, Ch n a ks → a + ks.length ≤ n
  | [], a, h => Nat.le_of_eq h
  | b :: r, a, h => by obtain ⟨_, e, h1, h2, h3⟩ := h; have := Ch.len h3; rw [List.length_cons]; omega
/-- what the tests look at -/
def asc : List Int → Prop
  | x :: y :: r => x < y ∧ asc (y :: r)
  | _ => True
theorem asc_ix : ∀ ss : List Int, asc ss ↔ ∀ k (h : k + 1 < ss.length), ss[k] < ss[k + 1]
  | [] => ⟨fun _ k h => by simp at h, fun _ => trivial⟩
  | [x] => ⟨fun _ k h => by simp at h, fun _ => trivial⟩
  | x :: y :: r => by
    constructor
    · intro h k hk
      cases k with
      | zero => exact h.1
      | succ k => exact (asc_ix (y :: r)).mp h.2 k (by simpa using hk)
    · intro h
      exact ⟨h 0 (by simp), (asc_ix (y :: r)).mpr fun k hk => h (k + 1) (by simpa using hk)⟩
theorem asc_ch : ∀ {r : List Int} {a n : Nat}, asc ((a : Int) :: r) → ((a : Int) :: r).getLast (by simp) < (n : Int) → ∃ ks, ((a : Int) :: r) = toI ks ∧ Ch n a ks
  | [], a, n, _, h2 => ⟨[a], rfl, rfl, n, by
      have : (a : Int) < n := h2
      omega, Nat.le_refl _, rfl⟩
  | y :: r, a, n, h1, h2 => by
    have h3 : (a : Int) < y := h1.1
    obtain ⟨b, rfl⟩ : ∃ b : Nat, y = (b : Int) := ⟨y.toNat, by omega⟩
    obtain ⟨ks, e, c⟩ := asc_ch (r := r) (a := b) (n := n) h1.2 (by simpa using h2)
    exact ⟨a :: ks, by rw [e]; rfl, rfl, b, by omega, c.le, c⟩
theorem ch_asc {n : Nat} : ∀ {ks : List Nat} {a : Nat}, Ch n a ks → asc (toI ks)
  | [], a, _ => trivial
  | [b], a, _ => trivial
  | b :: c :: r, a, h => by
    obtain ⟨rfl, e, h1, h2, h3⟩ := h
    have hc : c = e := h3.1
    exact ⟨show ((b : Nat) : Int) < (c : Nat) by omega, ch_asc h3⟩
theorem good_nil (n : Nat) : good [] n ↔ n = 0 := by
  constructor
  · rintro ⟨ks, h1, h2⟩
    cases ks with
    | nil => have : 0 = n := h2; omega
    | cons x r => cases h1
  · rintro rfl; exact ⟨[], rfl, rfl⟩
theorem good_cons (ss : List Int) (hne : ss ≠ []) (n : Nat) : good ss n ↔ ss.head hne = 0 ∧ ss.getLast hne < (n : Int) ∧ ∀ k (h : k + 1 < ss.length), ss[k] < ss[k + 1] := by
  rw [← asc_ix]
  constructor
  · rintro ⟨ks, rfl, h2⟩
    have ha := ch_asc h2
    cases ks with
    | nil => exact absurd rfl hne
    | cons b r =>
      refine ⟨by have := h2.1; subst this; rfl, ?_, ha⟩
      have hm := List.getLast_mem hne
      obtain ⟨k, hk, e⟩ := List.mem_map.mp hm
      rw [← e]
      have := h2.lt hk
      show ((k : Nat) : Int) < n
      omega
  · rintro ⟨h1, h2, h3⟩
    cases ss with
    | nil => exact absurd rfl hne
    | cons x r =>
      have hx : x = ((0 : Nat) : Int) := h1
      subst hx
      exact asc_ch h3 h2
theorem atI_neg1 {α : Type} {xs : List α} (h : xs ≠ []) : atI xs (-1) = some (xs.getLast h) := by
  have e := List.dropLast_concat_getLast h
  have := atI_last xs.dropLast (xs.getLast h)
  rw [e] at this
  exact this
theorem vis_last {ss : List Int} (h : ss ≠ []) : atI (vis ss) (-1) = some (V.int (ss.getLast h)) := by
  have hv : vis ss ≠ [] := fun z => h (List.map_eq_nil_iff.mp z)
  rw [atI_neg1 hv, List.getLast_map]
theorem ends_vis (ks : List Nat) (n : Nat) : vis ((toI ks).drop 1) ++ [V.int (n : Nat)] = vis (toI (ks.drop 1 ++ [n])) := by
  rw [toI_drop, toI_app]; exact (vis_app _ _).symm
/-! ### sums -/
/-- the squared gap of a line -/
def pr (ws : List (List Nat)) (wd : Int) (a e : Nat) : Int := if e = ws.length then 0 else (wd - (size ws a e : Nat)) * (wd - (size ws a e : Nat))
def sm (ws : List (List Nat)) (wd : Int) (ks : List Nat) : Int := ((pairs ws.length ks).map fun p => pr ws wd p.1 p.2).sum
def lns (ws : List (List Nat)) (ks : List Nat) : List (List Nat) := (pairs ws.length ks).map fun p => jn [32] (seg ws p.1 p.2)
theorem lns_length (ws : List (List Nat)) (ks : List Nat) : (lns ws ks).length = ks.length := by unfold lns; rw [List.length_map, pairs_length]
theorem pr_nonneg (ws : List (List Nat)) (wd : Int) (a e : Nat) : 0 ≤ pr ws wd a e := by
  unfold pr; split
  · exact Int.le_refl _
  · generalize wd - ((size ws a e : Nat) : Int) = z
    rcases Int.le_total 0 z with h | h
    · exact Int.mul_nonneg h h
    · exact Int.mul_nonneg_of_nonpos_of_nonpos h h
/-- an operation's answer, told otherwise -/
theorem rI_at {R : Int → Int → Prop} {g : Int → Int → V} {i j : Int} {v : V} {H : Hp} {Q : VK} (hv : g i j = v) (hc : R i j) (q : Q v H) : rI R g (.int i) (.int j) H Q := ⟨i, j, rfl, rfl, hc, by rw [hv]; exact q⟩
theorem rI0_at {g : Int → Int → V} {i j : Int} {v : V} {H : Hp} {Q : VK} (hv : g i j = v) (q : Q v H) : rI0 g (.int i) (.int j) H Q := ⟨i, j, rfl, rfl, by rw [hv]; exact q⟩
end Tw
namespace Tw
open PySem PySem.Spec PyProof.Rows L2
/-! ### widths, greatest sizes, sums -/
def Wb (n : Int) : Prop := n.natAbs < 2 ^ 120
theorem Wb.sub {n : Int} (h : Wb n) {k : Nat} (hk : k ≤ 100000000) : (n - (k : Nat)).natAbs < 2 ^ 121 := by unfold Wb at h; omega
theorem Wb.mul {n : Int} (h : Wb n) {k : Nat} (hk : k ≤ 100000000) : CMulW (n - (k : Nat)) (n - (k : Nat)) := wide_mul (h.sub hk) (h.sub hk) (by decide) (by decide) (by decide)
theorem Wb.pow {n : Int} (h : Wb n) {k : Nat} (hk : k ≤ 100000000) : (Builtin.Int.intBits (n - (k : Nat)) : Int) * 2 ≤ 2 ^ 27 := by
  have := intBits_le_iff.mpr (h.sub hk)
  omega
theorem Wb.sm {n : Int} (h1 : -1000000000 ≤ n) (h2 : n ≤ 10 ^ 30 + 1000000000) : Wb n := by unfold Wb; omega
theorem pow_two' (i : Int) : i ^ (2 : Int).toNat = i * i := by
  show i ^ 2 = i * i
  rw [Int.pow_succ, Int.pow_succ, Int.pow_zero, Int.one_mul]
def mx (l : List Nat) : Nat := l.foldl max 0
theorem mx_app (l : List Nat) (x : Nat) : mx (l ++ [x]) = max (mx l) x := by unfold mx; rw [List.foldl_append]; rfl
theorem mx_from (l : List Nat) (m : Nat) : l.foldl max m = max m (mx l) := by
  induction l generalizing m with
  | nil => simp [mx]
  | cons x r ih =>
    show r.foldl max (max m x) = max m (r.foldl max (max 0 x))
    rw [ih, ih (max 0 x)]; omega
theorem mx_cons (l : List Nat) (x : Nat) : mx (x :: l) = max x (mx l) := by
  show l.foldl max (max 0 x) = _
  rw [mx_from]; omega
theorem mx_ge {l : List Nat} {x : Nat} (h : x ∈ l) : x ≤ mx l := by
  induction l with
  | nil => cases h
  | cons y r ih =>
    rw [mx_cons]
    rcases List.mem_cons.mp h with z | z
    · omega
    · have := ih z; omega
theorem mx_le {l : List Nat} {b : Nat} (h : ∀ x ∈ l, x ≤ b) : mx l ≤ b := by
  induction l with
  | nil => exact Nat.zero_le _
  | cons y r ih =>
    rw [mx_cons]
    have := ih fun x hx => h x (List.mem_cons_of_mem _ hx)
    have := h y (List.mem_cons_self ..)
    omega
/-- the greatest of the lines' sizes -/
def gr (ws : List (List Nat)) (ks : List Nat) : Nat := mx ((pairs ws.length ks).map fun p => size ws p.1 p.2)
theorem gr_ge {ws : List (List Nat)} {ks : List Nat} {p : Nat × Nat} (h : p ∈ pairs ws.length ks) : size ws p.1 p.2 ≤ gr ws ks := mx_ge (List.mem_map.mpr ⟨p, h, rfl⟩)
theorem gr_le {ws : List (List Nat)} {ks : List Nat} {b : Nat} (h : ∀ p ∈ pairs ws.length ks, size ws p.1 p.2 ≤ b) : gr ws ks ≤ b := mx_le fun x hx => by
  obtain ⟨p, hp, rfl⟩ := List.mem_map.mp hx
  exact h p hp
/-- sums, line by line -/
def smTo (ws : List (List Nat)) (wd : Int) (ks : List Nat) (i : Nat) : Int := (((pairs ws.length ks).take i).map fun p => pr ws wd p.1 p.2).sum
theorem smTo_all (ws : List (List Nat)) (wd : Int) (ks : List Nat) : smTo ws wd ks ks.length = sm ws wd ks := by
  unfold smTo sm; rw [List.take_of_length_le (by rw [pairs_length]; exact Nat.le_refl _)]
theorem smTo_succ {ws : List (List Nat)} {wd : Int} {ks : List Nat} {i : Nat} {p : Nat × Nat} (h : (pairs ws.length ks)[i]? = some p) : smTo ws wd ks (i + 1) = smTo ws wd ks i + pr ws wd p.1 p.2 := by
  unfold smTo; rw [List.take_add_one, h, Option.toList_some, List.map_append, List.sum_append]; simp
def grTo (ws : List (List Nat)) (ks : List Nat) (i : Nat) : Nat := mx (((pairs ws.length ks).take i).map fun p => size ws p.1 p.2)
theorem grTo_all (ws : List (List Nat)) (ks : List Nat) : grTo ws ks ks.length = gr ws ks := by
  unfold grTo gr; rw [List.take_of_length_le (by rw [pairs_length]; exact Nat.le_refl _)]
theorem grTo_succ {ws : List (List Nat)} {ks : List Nat} {i : Nat} {p : Nat × Nat} (h : (pairs ws.length ks)[i]? = some p) : grTo ws ks (i + 1) = max (grTo ws ks i) (size ws p.1 p.2) := by
  unfold grTo; rw [List.take_add_one, h, Option.toList_some, List.map_append, List.map_singleton, mx_app]
theorem pr_last {ws : List (List Nat)} {wd : Int} {a e : Nat} (h : e = ws.length) : pr ws wd a e = 0 := if_pos h
theorem pr_gap {ws : List (List Nat)} {wd : Int} {a e : Nat} (h : ¬ e = ws.length) : pr ws wd a e = (wd - (size ws a e : Nat)) * (wd - (size ws a e : Nat)) := if_neg h
theorem mxI (i j : Nat) : (if ((j : Nat) : Int) > (i : Nat) then ((j : Nat) : Int) else ((i : Nat) : Int)) = ((max i j : Nat) : Int) := by split <;> omega
end Tw
namespace Tw
open PySem PySem.Spec PyProof.Rows L2
/-! ### while loops: no law about the test is wanted -/
theorem while_N {c : TT} {tb : TS} {D : Ends} {σ : L2.St} {H : Hp} (Pv : L2.St → Hp → Prop) (μ : L2.St → Hp → Nat) (h0 : Pv σ H)
    (hs : ∀ σ H, Pv σ H → c σ H fun b H1 => if b = true then ∃ N : L2.St → Hp → Prop, (∀ σ' H', N σ' H' → ∃ m', m' < μ σ H ∧ (m' = μ σ' H' ∧ Pv σ' H')) ∧ tb { D with nx := N, ct := N, bk := D.nx } σ H1 else D.nx σ H1) :
    tWhile c tb D σ H := ⟨fun m σ H => m = μ σ H ∧ Pv σ H, ⟨_, rfl, h0⟩, by rintro m σ H ⟨rfl, p⟩; exact hs σ H p⟩
/-! ### sizes by sums of what stands ahead -/
theorem total_seg_P (ws : List (List Nat)) {a c : Nat} (h : a ≤ c) : total (ws.take a) + total (seg ws a c) = total (ws.take c) := by
  have : ws.take c = ws.take a ++ seg ws a c := by
    unfold seg
    have h1 : c = a + (c - a) := by omega
    conv => lhs; rw [h1]
    rw [List.take_add]
  rw [this, total_app]
theorem size_P (ws : List (List Nat)) {a c : Nat} (h : a < c) (hc : c ≤ ws.length) : size ws a c + total (ws.take a) = total (ws.take c) + (c - a - 1) := by
  unfold size lsz
  have := total_seg_P ws (Nat.le_of_lt h)
  rw [seg_length ws hc]
  omega
theorem P_mono (ws : List (List Nat)) {a c : Nat} (h : a ≤ c) : total (ws.take a) ≤ total (ws.take c) := by have := total_seg_P ws h; omega
theorem size_mono {ws : List (List Nat)} {a b c d : Nat} (h1 : b ≤ a) (h2 : a < c) (h3 : c ≤ d) (h4 : d ≤ ws.length) : size ws a c ≤ size ws b d := by
  have e1 := size_P ws h2 (by omega)
  have e2 := size_P ws (show b < d by omega) h4
  have e3 := P_mono ws h1
  have e4 := P_mono ws h3
  omega
/-! ### lines that fit -/
def Fc (ws : List (List Nat)) (wd : Int) : Nat → List Nat → Prop
  | a, [] => a = ws.length
  | a, b :: r => b = a ∧ ∃ e, a < e ∧ e ≤ ws.length ∧ ((size ws a e : Nat) : Int) ≤ wd ∧ Fc ws wd e r
theorem Fc.ch {ws : List (List Nat)} {wd : Int} : ∀ {ks : List Nat} {a : Nat}, Fc ws wd a ks → Ch ws.length a ks
  | [], _, h => h
  | _ :: _, _, h => by obtain ⟨h1, e, h2, h3, _, h5⟩ := h; exact ⟨h1, e, h2, h3, h5.ch⟩
theorem Fc.fits {ws : List (List Nat)} {wd : Int} : ∀ {ks : List Nat} {a : Nat}, Fc ws wd a ks → ∀ p ∈ pairs ws.length ks, ((size ws p.1 p.2 : Nat) : Int) ≤ wd
  | [], _, _, p, hp => nomatch hp
  | [b], a, h, p, hp => by
    obtain ⟨rfl, e, h2, h3, h4, h5⟩ := h
    rw [pairs_one, List.mem_singleton] at hp
    subst hp
    have : e = ws.length := h5
    subst this
    exact h4
  | b :: c :: r, a, h, p, hp => by
    obtain ⟨rfl, e, h2, h3, h4, h5⟩ := h
    rw [pairs_cons] at hp
    have hc : c = e := h5.1
    rcases List.mem_cons.mp hp with z | z
    · subst z; subst hc; exact h4
    · exact Fc.fits h5 p z
/-- all words fit -/
def Ft (ws : List (List Nat)) (wd : Int) : Prop := 1 ≤ wd ∧ ∀ w ∈ ws, (w.length : Int) ≤ wd
theorem Ft.one {ws : List (List Nat)} {wd : Int} (h : Ft ws wd) {a : Nat} (ha : a < ws.length) : ((size ws a (a + 1) : Nat) : Int) ≤ wd := by
  rw [size_one ws ha]; exact h.2 _ (List.getElem_mem ha)
theorem Ft.of {ws : List (List Nat)} {wd : Int} (h1 : 1 ≤ wd) (h2 : ((longest ws : Nat) : Int) ≤ wd) : Ft ws wd := ⟨h1, fun w hw => by have := longest_ge hw; omega⟩
theorem Ft.vlong {ws : List (List Nat)} {wd : Int} (h : Ft ws wd) : vlong ws wd = .non := vlong_none h.2
/-! ### quick starts -/
def Qk (ws : List (List Nat)) (wd : Int) : Nat → List Nat → Prop
  | a, [] => a = ws.length
  | a, b :: r => b = a ∧ ∃ e, a < e ∧ e ≤ ws.length ∧ ((size ws a e : Nat) : Int) ≤ wd ∧ (e = ws.length ∨ wd < ((size ws a (e + 1) : Nat) : Int)) ∧ Qk ws wd e r
theorem Qk.fc {ws : List (List Nat)} {wd : Int} : ∀ {ks : List Nat} {a : Nat}, Qk ws wd a ks → Fc ws wd a ks
  | [], _, h => h
  | _ :: _, _, h => by obtain ⟨h1, e, h2, h3, h4, _, h5⟩ := h; exact ⟨h1, e, h2, h3, h4, h5.fc⟩
theorem Qk.next {ws : List (List Nat)} {wd : Int} : ∀ {ks : List Nat} {a : Nat}, Qk ws wd a ks → ∀ (k x y : Nat), ks[k]? = some x → ks[k + 1]? = some y → wd < ((size ws x (y + 1) : Nat) : Int)
  | [], _, _, k, x, y, h, _ => by simp at h
  | [b], _, _, k, x, y, _, h => by simp at h
  | b :: c :: r, a, h, k, x, y, hx, hy => by
    obtain ⟨rfl, e, h2, h3, h4, h5, h6⟩ := h
    cases k with
    | zero =>
      have hc : c = e := h6.1
      obtain ⟨_, e', g1, g2, _⟩ := h6
      cases hx; cases hy
      subst hc
      rcases h5 with z | z
      · omega
      · exact z
    | succ k => exact Qk.next h6 k x y hx hy
theorem Qk.least {ws : List (List Nat)} {wd : Int} : ∀ {ks os : List Nat} {a b : Nat}, b ≤ a → Qk ws wd a ks → Fc ws wd b os → ks.length ≤ os.length ∧ ∀ (k x y : Nat), ks[k]? = some x → os[k]? = some y → y ≤ x
  | [], os, a, b, _, _, _ => ⟨Nat.zero_le _, fun k x y h => by simp at h⟩
  | x0 :: r, [], a, b, hb, h, g => by
    obtain ⟨_, e, h2, h3, _⟩ := h
    have : b = ws.length := g
    omega
  | x0 :: r, y0 :: t, a, b, hb, h, g => by
    obtain ⟨rfl, e, h2, h3, h4, h5, h6⟩ := h
    obtain ⟨rfl, e', g2, g3, g4, g5⟩ := g
    have he : e' ≤ e := by
      rcases h5 with z | z
      · omega
      · rcases Nat.lt_or_ge e e' with l | l
        · have := size_mono (ws := ws) hb (show x0 < e + 1 by omega) (show e + 1 ≤ e' by omega) g3
          omega
        · exact l
    obtain ⟨i1, i2⟩ := Qk.least he h6 g5
    refine ⟨Nat.succ_le_succ i1, fun k x y hx hy => ?_⟩
    cases k with
    | zero => cases hx; cases hy; exact hb
    | succ k => exact i2 k x y hx hy
/-! ### the table -/
/-- the greatest end that leads to the least sum -/
def Best (ws : List (List Nat)) (wd : Int) (T : Nat → Int) (a e : Nat) : Prop := a < e ∧ e ≤ ws.length ∧ ((size ws a e : Nat) : Int) ≤ wd ∧
  ∀ e', a < e' → e' ≤ ws.length → ((size ws a e' : Nat) : Int) ≤ wd → pr ws wd a e + T e ≤ pr ws wd a e' + T e' ∧ (pr ws wd a e + T e = pr ws wd a e' + T e' → e' ≤ e)
def Tab (ws : List (List Nat)) (wd : Int) (T : Nat → Int) : Prop := T ws.length = 0 ∧ ∀ a, a < ws.length → ∃ e, Best ws wd T a e ∧ T a = pr ws wd a e + T e
theorem Best.only {ws : List (List Nat)} {wd : Int} {T : Nat → Int} {a e e' : Nat} (h : Best ws wd T a e) (h' : Best ws wd T a e') : e = e' := by
  have h1 := h.2.2.2 e' h'.1 h'.2.1 h'.2.2.1
  have h2 := h'.2.2.2 e h.1 h.2.1 h.2.2.1
  have h3 := h1.2 (by omega)
  have h4 := h2.2 (by omega)
  omega
/-- starts that a table leads to -/
def Bc (ws : List (List Nat)) (wd : Int) (T : Nat → Int) : Nat → List Nat → Prop
  | a, [] => a = ws.length
  | a, b :: r => b = a ∧ ∃ e, Best ws wd T a e ∧ Bc ws wd T e r
theorem Bc.fc {ws : List (List Nat)} {wd : Int} {T : Nat → Int} : ∀ {ks : List Nat} {a : Nat}, Bc ws wd T a ks → Fc ws wd a ks
  | [], _, h => h
  | _ :: _, _, h => by obtain ⟨h1, e, hb, h5⟩ := h; exact ⟨h1, e, hb.1, hb.2.1, hb.2.2.1, h5.fc⟩
theorem Bc.only {ws : List (List Nat)} {wd : Int} {T : Nat → Int} : ∀ {ks os : List Nat} {a : Nat}, Bc ws wd T a ks → Bc ws wd T a os → ks = os
  | [], [], _, _, _ => rfl
  | [], y :: s, a, h, g => by
    obtain ⟨_, e, hb, _⟩ := g
    have : a = ws.length := h
    have := hb.1; have := hb.2.1
    omega
  | x :: r, [], a, h, g => by
    obtain ⟨_, e, hb, _⟩ := h
    have : a = ws.length := g
    have := hb.1; have := hb.2.1
    omega
  | x :: r, y :: s, a, h, g => by
    obtain ⟨rfl, e, hb, h5⟩ := h
    obtain ⟨rfl, e', hb', g5⟩ := g
    have := hb.only hb'
    subst this
    rw [Bc.only h5 g5]
/-- sums line by line from a start on -/
theorem sm_one (ws : List (List Nat)) (wd : Int) (a : Nat) : sm ws wd [a] = pr ws wd a ws.length := by unfold sm; rw [pairs_one]; simp
theorem sm_cons (ws : List (List Nat)) (wd : Int) (a b : Nat) (r : List Nat) : sm ws wd (a :: b :: r) = pr ws wd a b + sm ws wd (b :: r) := by
  unfold sm; rw [pairs_cons, List.map_cons, List.sum_cons]
theorem sm_step {ws : List (List Nat)} {wd : Int} {a e : Nat} {r : List Nat} (h : Ch ws.length e r) : sm ws wd (a :: r) = pr ws wd a e + sm ws wd r := by
  cases r with
  | nil =>
    have : e = ws.length := h
    subst this
    rw [sm_one]; simp [sm, pairs]
  | cons c t =>
    have : c = e := h.1
    subst this
    exact sm_cons ..
theorem Tab.sum {ws : List (List Nat)} {wd : Int} {T : Nat → Int} (t : Tab ws wd T) : ∀ {ks : List Nat} {a : Nat}, Bc ws wd T a ks → sm ws wd ks = T a
  | [], a, h => by
    have : a = ws.length := h
    subst this
    rw [t.1]; rfl
  | x :: r, a, h => by
    obtain ⟨rfl, e, hb, h5⟩ := h
    rw [sm_step h5.fc.ch, Tab.sum t h5]
    obtain ⟨e', hb', he⟩ := t.2 x (by have := hb.1; have := hb.2.1; omega)
    rw [he, hb.only hb']
theorem Tab.le {ws : List (List Nat)} {wd : Int} {T : Nat → Int} (t : Tab ws wd T) : ∀ {os : List Nat} {a : Nat}, Fc ws wd a os → T a ≤ sm ws wd os
  | [], a, h => by
    have : a = ws.length := h
    subst this
    rw [t.1]; exact Int.le_refl _
  | x :: r, a, h => by
    obtain ⟨rfl, e, h2, h3, h4, h5⟩ := h
    rw [sm_step h5.ch]
    have := Tab.le t h5
    obtain ⟨e', hb', he⟩ := t.2 x (by omega)
    have := (hb'.2.2.2 e h2 h3 h4).1
    omega
/-- which of two lists of numbers goes first -/
def lexLt : List Int → List Int → Bool
  | [], [] => false
  | [], _ :: _ => true
  | _ :: _, [] => false
  | x :: r, y :: s => decide (x < y) || (decide (x = y) && lexLt r s)
theorem Tab.tie {ws : List (List Nat)} {wd : Int} {T : Nat → Int} (t : Tab ws wd T) : ∀ {ks os : List Nat} {a : Nat}, Bc ws wd T a ks → Fc ws wd a os → sm ws wd os = T a →
    lexLt (toI (ks ++ [ws.length])) (toI (os ++ [ws.length])) = false
  | [], [], a, h, g, _ => by show lexLt [((ws.length : Nat) : Int)] [((ws.length : Nat) : Int)] = false; simp [lexLt]
  | [], y :: s, a, h, g, _ => by
    obtain ⟨_, e, g1, g2, _⟩ := g
    have : a = ws.length := h
    omega
  | x :: r, [], a, h, g, _ => by
    obtain ⟨_, e, hb, _⟩ := h
    have : a = ws.length := g
    have := hb.1; have := hb.2.1
    omega
  | x :: r, y :: s, a, h, g, hs => by
    obtain ⟨rfl, e, hb, h5⟩ := h
    obtain ⟨rfl, e', g2, g3, g4, g5⟩ := g
    rw [sm_step g5.ch] at hs
    have h6 := Tab.le t g5
    obtain ⟨e2, hb', he⟩ := t.2 y (by omega)
    have := hb.only hb'
    subst this
    have h7 := hb.2.2.2 e' g2 g3 g4
    have h8 : e' ≤ e := h7.2 (by omega)
    show (decide (((y : Nat) : Int) < (y : Nat)) || (decide (((y : Nat) : Int) = (y : Nat)) && lexLt (toI (r ++ [ws.length])) (toI (s ++ [ws.length])))) = false
    rw [decide_eq_false (Int.lt_irrefl _), Bool.false_or, decide_eq_true rfl, Bool.true_and]
    rcases Nat.lt_or_eq_of_le h8 with z | z
    · have f1 : ∃ r', toI (r ++ [ws.length]) = (e : Int) :: r' := by
        cases r with
        | nil => have : e = ws.length := h5; subst this; exact ⟨[], rfl⟩
        | cons c r' => have : c = e := h5.1; subst this; exact ⟨_, rfl⟩
      have f2 : ∃ s', toI (s ++ [ws.length]) = (e' : Int) :: s' := by
        cases s with
        | nil => have : e' = ws.length := g5; subst this; exact ⟨[], rfl⟩
        | cons c s' => have : c = e' := g5.1; subst this; exact ⟨_, rfl⟩
      obtain ⟨r', f1⟩ := f1
      obtain ⟨s', f2⟩ := f2
      rw [f1, f2]
      unfold lexLt
      rw [decide_eq_false (by omega), decide_eq_false (by omega)]; rfl
    · subst z
      exact Tab.tie t h5 g5 (by omega)
end Tw
namespace Tw
open PySem PySem.Spec PyProof.Rows L2
/-! ### < on lists of ints -/
theorem firstLt_map (e r : Nat → Bool) (z : Bool) (f : Nat → Nat) : ∀ l : List Nat, SeqAt.firstLt e r z (l.map f) = SeqAt.firstLt (fun j => e (f j)) (fun j => r (f j)) z l
  | [] => rfl
  | j :: t => by
    show (if e (f j) = true then SeqAt.firstLt e r z (t.map f) else r (f j)) = (if e (f j) = true then SeqAt.firstLt (fun j => e (f j)) (fun j => r (f j)) z t else r (f j))
    rw [firstLt_map e r z f t]
theorem firstLt_lex : ∀ ns ms : List Int, SeqAt.firstLt (fun j => decide (ns.getD j 0 = ms.getD j 0)) (fun j => decide (ns.getD j 0 < ms.getD j 0)) (decide (ns.length < ms.length)) (List.range (min ns.length ms.length)) = lexLt ns ms
  | [], [] => rfl
  | [], y :: s => by simp [SeqAt.firstLt, lexLt]
  | x :: r, [] => by simp [SeqAt.firstLt, lexLt]
  | x :: r, y :: s => by
    have ih := firstLt_lex r s
    have e1 : min (x :: r).length (y :: s).length = min r.length s.length + 1 := by simp only [List.length_cons]; omega
    have e2 : decide ((x :: r).length < (y :: s).length) = decide (r.length < s.length) := by simp only [List.length_cons, decide_eq_decide]; omega
    rw [e1, e2, List.range_succ_eq_map]
    show (if decide (x = y) = true then SeqAt.firstLt _ _ _ (List.map Nat.succ (List.range (min r.length s.length))) else decide (x < y)) = lexLt (x :: r) (y :: s)
    rw [firstLt_map]
    show (if decide (x = y) = true then SeqAt.firstLt (fun j => decide (r.getD j 0 = s.getD j 0)) (fun j => decide (r.getD j 0 < s.getD j 0)) (decide (r.length < s.length)) (List.range (min r.length s.length)) else decide (x < y)) = (decide (x < y) || (decide (x = y) && lexLt r s))
    rw [ih]
    by_cases h : x = y
    · subst h
      rw [decide_eq_true rfl, if_pos rfl, decide_eq_false (Int.lt_irrefl x)]; simp
    · rw [decide_eq_false h, if_neg Bool.false_ne_true]; simp
def rLtL (K : PySem.W.Frag) : R2 := fun x y H Q => ∃ (a b : Addr) (ns ms : List Int), x = .ref a ∧ y = .ref b ∧ SqL K H a (vis ns) ∧ SqL K H b (vis ms) ∧ Q (.bl (lexLt ns ms)) H
theorem op_ltL {X : Cx} {k : Nat} (hr : Room k X.A) : OpR X (compareOp .Lt) (rLtL X.K) := by
  intro pins s σ H x y v u Q I rx ry h
  obtain ⟨a, b, ns, ms, rfl, rfl, ha, hb, q⟩ := h
  cases rx
  cases ry
  obtain ⟨its, r1, p1, _⟩ := I.list ha
  obtain ⟨its2, r2, p2, _⟩ := I.list hb
  have i1 : IntsAre its ns := Vals.ints r1
  have i2 : IntsAre its2 ms := Vals.ints r2
  have e1 : its.toArray.size = ns.length := by rw [List.size_toArray]; exact i1.length
  have e2 : its2.toArray.size = ms.length := by rw [List.size_toArray]; exact i2.length
  have at1 : ∀ j (h1 : j < its.toArray.size), ∃ t, its.toArray[j] = .int (ns.getD j 0) t := fun j h1 => PyProof.Rows.IntsAre.int_at i1 _ _ (by simp at h1; simp [h1])
  have at2 : ∀ j (h1 : j < its2.toArray.size), ∃ t, its2.toArray[j] = .int (ms.getD j 0) t := fun j h1 => PyProof.Rows.IntsAre.int_at i2 _ _ (by simp at h1; simp [h1])
  have R := SeqAt.RcLt.lists (A := X.A) (s := s) (e := fun j => decide (ns.getD j 0 = ms.getD j 0)) (r := fun j => decide (ns.getD j 0 < ms.getD j 0)) p1.isList p2.isList (by have := hr.units; omega) (fun j h1 h2 => by
    obtain ⟨t, et⟩ := at1 j h1
    obtain ⟨t', et'⟩ := at2 j h2
    rw [et, et']
    have z : (ns.getD j 0 == ms.getD j 0) = decide (ns.getD j 0 = ms.getD j 0) := by
      by_cases q : ns.getD j 0 = ms.getD j 0
      · rw [decide_eq_true q]; exact beq_iff_eq.mpr q
      · rw [decide_eq_false q]; exact beq_eq_false_iff_ne.mpr q
    rw [← z]
    exact SeqAt.EqAt.int_int _ _ _ _) (fun j h1 h2 _ => by
    obtain ⟨t, et⟩ := at1 j h1
    obtain ⟨t', et'⟩ := at2 j h2
    rw [et, et']
    exact fun _ _ _ _ h => PyProof.Rows.lt_int h)
  rw [e1, e2, firstLt_lex] at R
  have z : wpAny (model X.prog X.w) X.A (compareOp .Lt (.ref a) (.ref b)) (EP X pins σ Q) X.xe s := R X.prog X.w X.xe (EP X pins σ Q) ⟨.bl _, H, I, rfl, q⟩
  exact z
end Tw
namespace Tw
open PySem PySem.Spec PyProof.Rows L2
/-! ### layers: the least sums of just so many lines -/
/-- the greatest end of a fitting line that leads to the least sum by a layer -/
def BestL (ws : List (List Nat)) (wd : Int) (L : Nat → Option Int) (a e : Nat) : Prop := a < e ∧ e ≤ ws.length ∧ ((size ws a e : Nat) : Int) ≤ wd ∧ ∃ v, L e = some v ∧
  ∀ e' v', a < e' → e' ≤ ws.length → ((size ws a e' : Nat) : Int) ≤ wd → L e' = some v' → pr ws wd a e + v ≤ pr ws wd a e' + v' ∧ (pr ws wd a e + v = pr ws wd a e' + v' → e' ≤ e)
def NoneL (ws : List (List Nat)) (wd : Int) (L : Nat → Option Int) (a : Nat) : Prop := ∀ e', a < e' → e' ≤ ws.length → ((size ws a e' : Nat) : Int) ≤ wd → L e' = none
/-- the next layer -/
def NextL (ws : List (List Nat)) (wd : Int) (L M : Nat → Option Int) : Prop := M ws.length = none ∧ ∀ a, a < ws.length → (M a = none ∧ NoneL ws wd L a) ∨ ∃ e v, BestL ws wd L a e ∧ L e = some v ∧ M a = some (pr ws wd a e + v)
def Lay0 (ws : List (List Nat)) (L : Nat → Option Int) : Prop := L ws.length = some 0 ∧ ∀ a, a < ws.length → L a = none
structure Lays (ws : List (List Nat)) (wd : Int) (m : Nat) (L : Nat → Nat → Option Int) : Prop where
  zero : Lay0 ws (L 0)
  next : ∀ k, k < m → NextL ws wd (L k) (L (k + 1))
theorem Lays.le {ws : List (List Nat)} {wd : Int} {m : Nat} {L : Nat → Nat → Option Int} (l : Lays ws wd m L) : ∀ {os : List Nat} {a : Nat}, Fc ws wd a os → os.length ≤ m → ∃ v, L os.length a = some v ∧ v ≤ sm ws wd os
  | [], a, h, _ => by
    have : a = ws.length := h
    subst this
    exact ⟨0, l.zero.1, Int.le_refl _⟩
  | x :: r, a, h, hm => by
    obtain ⟨rfl, e, h2, h3, h4, h5⟩ := h
    obtain ⟨v, hv, hl⟩ := l.le h5 (by simp only [List.length_cons] at hm; omega)
    rcases (l.next r.length (by simp only [List.length_cons] at hm; omega)).2 x (by omega) with ⟨_, hn⟩ | ⟨e', v', hb, hv', hM⟩
    · have := hn e h2 h3 h4
      rw [hv] at this; cases this
    · refine ⟨_, hM, ?_⟩
      obtain ⟨_, _, _, v2, hv2, ho⟩ := hb
      rw [hv'] at hv2
      cases hv2
      have := (ho e v h2 h3 h4 hv).1
      rw [sm_step h5.ch]
      omega
/-- starts that layers lead to -/
def BcL (ws : List (List Nat)) (wd : Int) (L : Nat → Nat → Option Int) : Nat → List Nat → Prop
  | a, [] => a = ws.length
  | a, b :: r => b = a ∧ ∃ e, BestL ws wd (L r.length) a e ∧ BcL ws wd L e r
theorem BcL.fc {ws : List (List Nat)} {wd : Int} {L : Nat → Nat → Option Int} : ∀ {ks : List Nat} {a : Nat}, BcL ws wd L a ks → Fc ws wd a ks
  | [], _, h => h
  | _ :: _, _, h => by obtain ⟨h1, e, hb, h5⟩ := h; exact ⟨h1, e, hb.1, hb.2.1, hb.2.2.1, h5.fc⟩
theorem Lays.sum {ws : List (List Nat)} {wd : Int} {m : Nat} {L : Nat → Nat → Option Int} (l : Lays ws wd m L) : ∀ {ks : List Nat} {a : Nat}, BcL ws wd L a ks → ks.length ≤ m → L ks.length a = some (sm ws wd ks)
  | [], a, h, _ => by
    have : a = ws.length := h
    subst this
    exact l.zero.1
  | x :: r, a, h, hm => by
    obtain ⟨rfl, e, hb, h5⟩ := h
    have i := l.sum h5 (by simp only [List.length_cons] at hm; omega)
    rw [sm_step h5.fc.ch]
    rcases (l.next r.length (by simp only [List.length_cons] at hm; omega)).2 x (by have := hb.1; have := hb.2.1; omega) with ⟨_, hn⟩ | ⟨e', v', hb', hv', hM⟩
    · have := hn e hb.1 hb.2.1 hb.2.2.1
      rw [i] at this; cases this
    · obtain ⟨g1, g2, g3, v, hv, ho⟩ := hb
      obtain ⟨f1, f2, f3, u, hu, ho'⟩ := hb'
      rw [i] at hv
      cases hv
      rw [hv'] at hu
      cases hu
      have a1 := ho e' v' f1 f2 f3 hv'
      have a2 := ho' e _ g1 g2 g3 i
      show L (r.length + 1) x = _
      rw [hM]
      exact congrArg some (by omega)
theorem Lays.tie {ws : List (List Nat)} {wd : Int} {m : Nat} {L : Nat → Nat → Option Int} (l : Lays ws wd m L) : ∀ {ks os : List Nat} {a : Nat}, BcL ws wd L a ks → Fc ws wd a os → os.length = ks.length → ks.length ≤ m → sm ws wd os = sm ws wd ks →
    lexLt (toI ks) (toI os) = false
  | [], [], a, _, _, _, _, _ => rfl
  | [], _ :: _, _, _, _, h, _, _ => by simp at h
  | _ :: _, [], _, _, _, h, _, _ => by simp at h
  | x :: r, y :: s, a, h, g, hl, hm, hs => by
    obtain ⟨rfl, e, hb, h5⟩ := h
    obtain ⟨rfl, e', g2, g3, g4, g5⟩ := g
    have hl' : s.length = r.length := by simpa using hl
    have hm' : r.length ≤ m := by simp only [List.length_cons] at hm; omega
    rw [sm_step g5.ch, sm_step h5.fc.ch] at hs
    have i1 := l.sum h5 hm'
    obtain ⟨v', i2, i3⟩ := l.le g5 (by omega)
    rw [hl'] at i2
    obtain ⟨_, _, _, v, hv, ho⟩ := hb
    rw [i1] at hv
    cases hv
    have h7 := ho e' v' g2 g3 g4 i2
    have h8 : e' ≤ e := h7.2 (by omega)
    show (decide (((y : Nat) : Int) < (y : Nat)) || (decide (((y : Nat) : Int) = (y : Nat)) && lexLt (toI r) (toI s))) = false
    rw [decide_eq_false (Int.lt_irrefl _), Bool.false_or, decide_eq_true rfl, Bool.true_and]
    rcases Nat.lt_or_eq_of_le h8 with z | z
    · cases r with
      | nil =>
        have : s = [] := List.length_eq_zero_iff.mp hl'
        subst this
        rfl
      | cons c r' =>
        cases s with
        | nil => simp at hl'
        | cons d s' =>
          have hc : c = e := h5.1
          have hd : d = e' := g5.1
          subst hc hd
          show (decide (((c : Nat) : Int) < (d : Nat)) || (decide (((c : Nat) : Int) = (d : Nat)) && lexLt (toI r') (toI s'))) = false
          rw [decide_eq_false (by omega), decide_eq_false (by omega)]; rfl
    · subst z
      exact l.tie h5 g5 hl' hm' (by omega)
/-- a line cut in two -/
theorem Fc.more {ws : List (List Nat)} {wd : Int} : ∀ {os : List Nat} {a : Nat}, Fc ws wd a os → a + os.length < ws.length → ∃ ks, Fc ws wd a ks ∧ ks.length = os.length + 1
  | [], a, h, hl => by
    have : a = ws.length := h
    simp at hl; omega
  | x :: r, a, h, hl => by
    obtain ⟨rfl, e, h2, h3, h4, h5⟩ := h
    rcases Nat.lt_or_ge (x + 1) e with c | c
    · refine ⟨x :: (x + 1) :: r, ⟨rfl, x + 1, by omega, by omega, ?_, rfl, e, c, h3, ?_, h5⟩, by simp⟩
      · have := size_mono (ws := ws) (Nat.le_refl x) (show x < x + 1 by omega) (Nat.le_of_lt c) h3
        omega
      · have := size_mono (ws := ws) (show x ≤ x + 1 by omega) c (Nat.le_refl e) h3
        omega
    · obtain ⟨ks, k1, k2⟩ := Fc.more h5 (by simp only [List.length_cons] at hl; omega)
      exact ⟨x :: ks, ⟨rfl, e, h2, h3, h4, k1⟩, by rw [List.length_cons, List.length_cons, k2]⟩
theorem Fc.many {ws : List (List Nat)} {wd : Int} {os : List Nat} (h : Fc ws wd 0 os) : ∀ m, os.length ≤ m → m ≤ ws.length → ∃ ks, Fc ws wd 0 ks ∧ ks.length = m := by
  intro m h1 h2
  induction m with
  | zero => exact ⟨os, h, by omega⟩
  | succ m ih =>
    rcases Nat.lt_or_eq_of_le h1 with c | c
    · obtain ⟨ks, k1, k2⟩ := ih (by omega) (by omega)
      obtain ⟨ks', g1, g2⟩ := Fc.more k1 (by omega)
      exact ⟨ks', g1, by omega⟩
    · exact ⟨os, h, c⟩
end Tw
namespace Tw
/-- where all words fit there are quick starts -/
theorem quick_from {ws : List (List Nat)} {wd : Int} (ft : Ft ws wd) : ∀ (k a : Nat), a ≤ ws.length → ws.length - a = k → ∃ qs, Qk ws wd a qs := by
  intro k
  induction k using Nat.strongRecOn with
  | ind k ih =>
    intro a ha hk
    rcases Nat.lt_or_eq_of_le ha with l | l
    · have ex : ∀ d e, a < e → e ≤ ws.length → ((size ws a e : Nat) : Int) ≤ wd → ws.length - e = d → ∃ e', a < e' ∧ e' ≤ ws.length ∧ ((size ws a e' : Nat) : Int) ≤ wd ∧ (e' = ws.length ∨ wd < ((size ws a (e' + 1) : Nat) : Int)) := by
        intro d
        induction d with
        | zero => intro e h1 h2 h3 h4; exact ⟨e, h1, h2, h3, .inl (by omega)⟩
        | succ d ihd =>
          intro e h1 h2 h3 h4
          by_cases c : wd < ((size ws a (e + 1) : Nat) : Int)
          · exact ⟨e, h1, h2, h3, .inr c⟩
          · exact ihd (e + 1) (by omega) (by omega) (by omega) (by omega)
      obtain ⟨e, h1, h2, h3, h4⟩ := ex _ (a + 1) (by omega) (by omega) (ft.one l) rfl
      obtain ⟨qs, hq⟩ := ih (ws.length - e) (by omega) e h2 rfl
      exact ⟨a :: qs, rfl, e, h1, h2, h3, h4, hq⟩
    · exact ⟨[], l⟩
theorem Ft.quick {ws : List (List Nat)} {wd : Int} (ft : Ft ws wd) : ∃ qs, Qk ws wd 0 qs := quick_from ft _ 0 (Nat.zero_le _) rfl
end Tw
namespace Tw
open PySem PySem.Spec PyProof.Rows L2
/-! ### tables of what stands behind a place -/
theorem seg_drop (ws : List (List Nat)) (c i j : Nat) : seg ws (c + i) (c + j) = seg (ws.drop c) i j := by
  unfold seg
  rw [List.drop_drop, show c + j - (c + i) = j - i by omega]
theorem size_drop (ws : List (List Nat)) (c i j : Nat) : size ws (c + i) (c + j) = size (ws.drop c) i j := by unfold size; rw [seg_drop]
theorem pr_drop (ws : List (List Nat)) (wd : Int) {c : Nat} (hc : c ≤ ws.length) (i j : Nat) : pr ws wd (c + i) (c + j) = pr (ws.drop c) wd i j := by
  unfold pr
  rw [size_drop, List.length_drop]
  by_cases h : c + j = ws.length
  · rw [if_pos h, if_pos (by omega)]
  · rw [if_neg h, if_neg (by omega)]
theorem Best.drop {ws : List (List Nat)} {wd : Int} {T : Nat → Int} {c i j : Nat} (hc : c ≤ ws.length) : Best ws wd T (c + i) (c + j) ↔ Best (ws.drop c) wd (fun k => T (c + k)) i j := by
  constructor
  · rintro ⟨h1, h2, h3, h4⟩
    refine ⟨by omega, by rw [List.length_drop]; omega, by rw [← size_drop]; exact h3, fun e' g1 g2 g3 => ?_⟩
    rw [List.length_drop] at g2
    have := h4 (c + e') (by omega) (by omega) (by rw [size_drop]; exact g3)
    rw [pr_drop ws wd hc, pr_drop ws wd hc] at this
    exact ⟨this.1, fun z => by have := this.2 z; omega⟩
  · rintro ⟨h1, h2, h3, h4⟩
    rw [List.length_drop] at h2
    refine ⟨by omega, by omega, by rw [size_drop]; exact h3, fun e' g1 g2 g3 => ?_⟩
    obtain ⟨e, rfl⟩ : ∃ e, e' = c + e := ⟨e' - c, by omega⟩
    rw [size_drop] at g3
    have := h4 e (by omega) (by rw [List.length_drop]; omega) g3
    rw [pr_drop ws wd hc, pr_drop ws wd hc]
    exact ⟨this.1, fun z => by have := this.2 z; omega⟩
/-- a whole table's end is the table of the words from there on -/
theorem Tab.drop {ws : List (List Nat)} {wd : Int} {T : Nat → Int} (t : Tab ws wd T) {c : Nat} (hc : c ≤ ws.length) : Tab (ws.drop c) wd (fun k => T (c + k)) := by
  refine ⟨?_, fun a ha => ?_⟩
  · rw [List.length_drop]
    show T (c + (ws.length - c)) = 0
    rw [show c + (ws.length - c) = ws.length by omega]; exact t.1
  · rw [List.length_drop] at ha
    obtain ⟨e, hb, he⟩ := t.2 (c + a) (by omega)
    obtain ⟨j, rfl⟩ : ∃ j, e = c + j := ⟨e - c, by have := hb.1; omega⟩
    refine ⟨j, (Best.drop hc).mp hb, ?_⟩
    show T (c + a) = _
    rw [he, pr_drop ws wd hc]
/-- and the other way about, for the places from c on -/
theorem Tab.lift {ws : List (List Nat)} {wd : Int} {T : Nat → Int} {c : Nat} (hc : c ≤ ws.length) (t : Tab (ws.drop c) wd (fun k => T (c + k))) :
    T ws.length = 0 ∧ ∀ a, c ≤ a → a < ws.length → ∃ e, Best ws wd T a e ∧ T a = pr ws wd a e + T e := by
  refine ⟨?_, fun a h1 h2 => ?_⟩
  · have h := t.1
    rw [List.length_drop] at h
    have h' : T (c + (ws.length - c)) = 0 := h
    rw [show c + (ws.length - c) = ws.length by omega] at h'; exact h'
  · obtain ⟨i, rfl⟩ : ∃ i, a = c + i := ⟨a - c, by omega⟩
    obtain ⟨j, hb, he⟩ := t.2 i (by rw [List.length_drop]; omega)
    refine ⟨c + j, (Best.drop hc).mpr hb, ?_⟩
    rw [pr_drop ws wd hc]; exact he
end Tw
namespace Tw
open PySem PySem.Spec PyProof.Rows L2
/-! ### methods of a class of the text -/
structure AtM (K : PySem.W.Frag) (C : Addr) (m q : Str) (ps : List Str) (st : Stmt) : Prop where
  ex : ∃ f fd, Meth K C m f ∧ Fun K m q st f fd ∧ Binds K fd ps []
structure OkM (P : Program) (w : World) (K : PySem.W.Frag) (mg : Str → Option Value) (base : Heap) (CX : CXT) (k : Nat) (C : Addr) (m : Str) (ps : List Str) (sp : Sp) : Prop where
  ex : ∃ f fd, Meth K C m f ∧ Binds K fd ps [] ∧ FnOk P w K mg base CX k f fd ps sp
section
variable {P : Program} {w : World} {K : PySem.W.Frag} {mg : Str → Option Value} {base : Heap}
theorem AtM.ok {C : Addr} {m q : Str} {ps N : List Str} {st : Stmt} {k : Nat} {sp : Sp} (A : AtM K C m q ps st) (S : FnScope N ps (defScope st))
    (len : ∀ vs H Q E, sp vs H Q E → vs.length = ps.length)
    (hbody : ∀ (f cdv : _) (A : Around) (outer : List Env) (s : Shared) (H : Hp) (vs : List V) (Q : VK) (E : XK),
      Room k (A.deeper (envOfC q (defScope st) s.heap.objs.size f cdv)) → sp vs H Q E →
      ∃ t, PSs (cxOf CX0 P w K mg base N q (defScope st) f cdv A outer s H E).nox (defBody st) t ∧
        t { nx := fun _ H' => Q .non H', rt := Q } (start N vs) H) :
    OkM P w K mg base CX0 (k + 1) C m ps sp := by
  obtain ⟨f, fd, g, F, b⟩ := A.ex
  exact ⟨f, fd, g, b, F.ok S len (hbody f)⟩
theorem AtM.okX {C : Addr} {m q : Str} {ps N : List Str} {st : Stmt} {k : Nat} {sp : Sp} (A : AtM K C m q ps st) (S : FnScope N ps (defScope st))
    (len : ∀ vs H Q E, sp vs H Q E → vs.length = ps.length)
    (hbody : ∀ (f cdv : _) (A : Around) (outer : List Env) (s : Shared) (H : Hp) (vs : List V) (Q : VK) (E : XK),
      Room k (A.deeper (envOfC q (defScope st) s.heap.objs.size f cdv)) → sp vs H Q E →
      ∃ t, PSs (cxOf (CXn P w) P w K mg base N q (defScope st) f cdv A outer s H E) (defBody st) t ∧
        t { nx := fun _ H' => Q .non H', rt := Q } (start N vs) H) :
    OkM P w K mg base (CXn P w) (k + 1) C m ps sp := by
  obtain ⟨f, fd, g, F, b⟩ := A.ex
  obtain ⟨oc, od, kV, doc, pm, an, cdv, ct, osl, e, lk, hcd⟩ := F.ex
  subst e
  exact ⟨f, _, g, b, fn_of lk hcd S len fun A outer s H vs Q E hr hsp => hbody f cdv A outer s H vs Q E hr hsp⟩
/-- a call of it, with arguments and without -/
theorem pe_md {X : Cx} {CX : CXT} {k : Nat} {C : Addr} {m : Str} {ps : List Str} {sp : Sp} {E : XK} {o e : Expr} {es : List Expr} {ta : TE} {t : TA} {apos pos : Pos} {pl : Sem Bool}
    (he : PE X o ta) (c : Cls X.K C) (G : OkM X.prog X.w X.K X.mg X.base CX k C m ps sp) (hr : Room k X.A) (hx : Passes CX X E) (ha : PA X (e :: es) t)
    (hst : starEach (e :: es) X.env = (false, eval e X.env) :: starEach es X.env := by rfl) (hpl : (backTo pos (starEach es X.env)).any (·.1) = false := by rfl)
    (ht : eval (.Call (.Attribute o m apos) (e :: es) [] pos) X.env = (do
      let ov ← eval o X.env
      standAt apos.atName
      let (f, first) ← holding [ov] (getMethod ov m pl)
      callWith pos f first (backTo pos (starEach (e :: es) X.env)) (backToKw pos (keywordEach [] X.env))) := by rfl) :
    PE X (.Call (.Attribute o m apos) (e :: es) [] pos) (tMeth C m sp [] E ta t) := by
  obtain ⟨f, fd, hm, b, F⟩ := G.ex
  exact pe_meth he c hm F hr b .nil hx ha hst hpl ht
theorem pe_md0 {X : Cx} {CX : CXT} {k : Nat} {C : Addr} {m : Str} {ps : List Str} {sp : Sp} {E : XK} {o : Expr} {ta : TE} {apos pos : Pos} {pl : Sem Bool}
    (he : PE X o ta) (c : Cls X.K C) (G : OkM X.prog X.w X.K X.mg X.base CX k C m ps sp) (hr : Room k X.A) (hx : Passes CX X E)
    (ht : eval (.Call (.Attribute o m apos) [] [] pos) X.env = (do
      let ov ← eval o X.env
      standAt apos.atName
      let (f, first) ← holding [ov] (getMethod ov m pl)
      callWith pos f first (backTo pos (starEach [] X.env)) (backToKw pos (keywordEach [] X.env))) := by rfl) :
    PE X (.Call (.Attribute o m apos) [] [] pos) (tMeth C m sp [] E ta tNil) := by
  obtain ⟨f, fd, hm, b, F⟩ := G.ex
  exact pe_meth0 he c hm F hr b .nil hx ht
end
theorem atm_mk {K : PySem.W.Frag} {C : Addr} {x q : Str} {ps : List Str} {st : Stmt} {f : Addr} {oc kV dc pm cd ct : Value} {od an : Option Addr} {sl : Array (Option Value)}
    (a : PySem.W.findIn K (.ref C) x = some (some (.ref f))) (i : PySem.W.isFn K (.ref f) = true)
    (l : K.lookup f = some ⟨oc, od, .func (PySem.W.fnOf x q (defArgs st) (defBody st) (defScope st) .none kV dc pm an cd ct), sl⟩)
    (c : PySem.W.codeIn K cd q = true) (k : PySem.W.keepIn K (.ref f) = true)
    (b : ∀ (kV doc pm : Value) (an : Option Addr) (cdv ct : Value) (us : List Value), us.length = ps.length →
      bindArgs (PySem.W.fnOf x q (defArgs st) (defBody st) (defScope st) .none kV doc pm an cdv ct) ⟨us, []⟩ = pure (ps.zip us)) : AtM K C x q ps st := by
  have F := fun_mk (x := x) (qual := q) (st := st) l c k
  exact ⟨f, _, ⟨a, i, k⟩, F, F.binds b⟩
end Tw
namespace Tw
open PySem PySem.Spec PyProof.Rows L2
/-! ### the page's fields -/
theorem putF_len {f : Str} {v : V} : ∀ {fs : List (Str × V)}, (fs.lookup f).isSome = true → (putF f v fs).length = fs.length
  | [], h => by cases h
  | (g, x) :: r, h => by
    show (if g = f then (g, v) :: r else (g, x) :: putF f v r).length = _
    by_cases e : g = f
    · rw [if_pos e]; rfl
    · rw [if_neg e, List.length_cons, List.length_cons, putF_len]
      rw [List.lookup_cons] at h
      have : (f == g) = false := by
        rw [beq_eq_false_iff_ne]; exact fun z => e z.symm
      rw [this] at h; exact h
structure PgF (fs : List (Str × V)) (n : Int) (r t q : Addr) : Prop where
  len : fs.length = 4
  w : fs.lookup ("width" : Str) = some (.int n)
  r : fs.lookup ("row" : Str) = some (.ref r)
  t : fs.lookup ("table" : Str) = some (.ref t)
  q : fs.lookup ("past" : Str) = some (.ref q)
  no : ∀ m : Str, m ≠ ("width" : Str) → m ≠ ("row" : Str) → m ≠ ("table" : Str) → m ≠ ("past" : Str) → fs.lookup m = none
theorem nWR : ¬ ("width" : Str) = "row" := by decide +kernel
theorem nWT : ¬ ("width" : Str) = "table" := by decide +kernel
theorem nWP : ¬ ("width" : Str) = "past" := by decide +kernel
theorem nRT : ¬ ("row" : Str) = "table" := by decide +kernel
theorem nRP : ¬ ("row" : Str) = "past" := by decide +kernel
theorem nTP : ¬ ("table" : Str) = "past" := by decide +kernel
theorem PgF.setW {fs : List (Str × V)} {n : Int} {r t q : Addr} (h : PgF fs n r t q) (m : Int) : PgF (putF "width" (.int m) fs) m r t q :=
  ⟨by rw [putF_len (by rw [h.w]; rfl), h.len], by rw [lookup_putF, if_pos rfl], by rw [lookup_putF, if_neg (Ne.symm nWR)]; exact h.r, by rw [lookup_putF, if_neg (Ne.symm nWT)]; exact h.t,
   by rw [lookup_putF, if_neg (Ne.symm nWP)]; exact h.q, fun m a b c d => by rw [lookup_putF, if_neg a]; exact h.no m a b c d⟩
theorem PgF.setR {fs : List (Str × V)} {n : Int} {r t q : Addr} (h : PgF fs n r t q) (m : Addr) : PgF (putF "row" (.ref m) fs) n m t q :=
  ⟨by rw [putF_len (by rw [h.r]; rfl), h.len], by rw [lookup_putF, if_neg nWR]; exact h.w, by rw [lookup_putF, if_pos rfl], by rw [lookup_putF, if_neg (Ne.symm nRT)]; exact h.t,
   by rw [lookup_putF, if_neg (Ne.symm nRP)]; exact h.q, fun m a b c d => by rw [lookup_putF, if_neg b]; exact h.no m a b c d⟩
theorem PgF.setT {fs : List (Str × V)} {n : Int} {r t q : Addr} (h : PgF fs n r t q) (m : Addr) : PgF (putF "table" (.ref m) fs) n r m q :=
  ⟨by rw [putF_len (by rw [h.t]; rfl), h.len], by rw [lookup_putF, if_neg nWT]; exact h.w, by rw [lookup_putF, if_neg nRT]; exact h.r, by rw [lookup_putF, if_pos rfl],
   by rw [lookup_putF, if_neg (Ne.symm nTP)]; exact h.q, fun m a b c d => by rw [lookup_putF, if_neg c]; exact h.no m a b c d⟩
/-- what the walk asks of the class -/
structure PgC (K : PySem.W.Frag) (C : Addr) : Prop where
  cl : Cls K C
  nw : NoAttr K C "width"
  nr : NoAttr K C "row"
  nt : NoAttr K C "table"
  np : NoAttr K C "past"
end Tw
namespace Tw
open PySem PySem.Spec PyProof.Rows L2
theorem pf1 (n : Int) : putF "width" (.int n) [] = [(("width" : Str), V.int n)] := rfl
theorem pf2 (n : Int) (r : Addr) : putF "row" (.ref r) (putF "width" (.int n) []) = [(("width" : Str), V.int n), (("row" : Str), V.ref r)] := by
  show (if ("width" : Str) = "row" then [(("width" : Str), V.ref r)] else (("width" : Str), V.int n) :: putF "row" (.ref r) []) = _
  rw [if_neg nWR]; rfl
theorem pf3 (n : Int) (r t : Addr) : putF "table" (.ref t) (putF "row" (.ref r) (putF "width" (.int n) [])) = [(("width" : Str), V.int n), (("row" : Str), V.ref r), (("table" : Str), V.ref t)] := by
  rw [pf2]
  show (if ("width" : Str) = "table" then _ else (("width" : Str), V.int n) :: (if ("row" : Str) = "table" then _ else (("row" : Str), V.ref r) :: putF "table" (.ref t) [])) = _
  rw [if_neg nWT, if_neg nRT]; rfl
theorem pf4 (n : Int) (r t q : Addr) : putF "past" (.ref q) (putF "table" (.ref t) (putF "row" (.ref r) (putF "width" (.int n) []))) = [(("width" : Str), V.int n), (("row" : Str), V.ref r), (("table" : Str), V.ref t), (("past" : Str), V.ref q)] := by
  rw [pf3]
  show (if ("width" : Str) = "past" then _ else (("width" : Str), V.int n) :: (if ("row" : Str) = "past" then _ else (("row" : Str), V.ref r) :: (if ("table" : Str) = "past" then _ else (("table" : Str), V.ref t) :: putF "past" (.ref q) []))) = _
  rw [if_neg nWP, if_neg nRP, if_neg nTP]; rfl
theorem PgF.mk0 (n : Int) (r t q : Addr) : PgF (putF "past" (.ref q) (putF "table" (.ref t) (putF "row" (.ref r) (putF "width" (.int n) [])))) n r t q :=
  ⟨by rw [pf4]; rfl, by rw [lookup_putF, if_neg nWP, lookup_putF, if_neg nWT, lookup_putF, if_neg nWR, lookup_putF, if_pos rfl],
   by rw [lookup_putF, if_neg nRP, lookup_putF, if_neg nRT, lookup_putF, if_pos rfl], by rw [lookup_putF, if_neg nTP, lookup_putF, if_pos rfl],
   by rw [lookup_putF, if_pos rfl], fun m a b c d => by rw [lookup_putF, if_neg d, lookup_putF, if_neg c, lookup_putF, if_neg b, lookup_putF, if_neg a]; rfl⟩
end Tw
namespace PySem.SeqAt
open AutoSeq1 (wpAny_loadPart')
open MeetsSeq MeetsSeq2 MeetsSeq3 SeqRoads2
section
variable {prog : Program} {w : World}
theorem tw_list_neIn (l b : Addr) (items items2 : Array Value) (n n2 : Nat) (dd dd2 : Option Addr) (sl sl2 : Array (Option Value)) (hsz : items.size ≠ items2.size) :
    MeetsIn prog w (Builtin.«list.__eq__» ⟨[.ref l, .ref b], []⟩)
      (fun A R s => s.heap.get? l = some { cls := .type "list", dict := dd, data := .seq items n, slots := sl } ∧ s.heap.get? b = some { cls := .type "list", dict := dd2, data := .seq items2 n2, slots := sl2 } ∧
        R (.ok (.ret (.bool false))) s) := by
  intro A R s h
  obtain ⟨hp, g, d, tk, os⟩ := s; obtain ⟨hl, hb, h⟩ := h
  have f3 := AutoSeq1.sub_list_list
  have hne : (items.size != items2.size) = true := by simp [hsz]
  wp_walk using wpAny_loadPart' hl, wpAny_loadPart' hb
  exact h
theorem tw_lists_ne {A : Around} {s : Shared} {l b : Addr} {items items2 : Array Value} (hl : s.heap.IsList l items) (hb : s.heap.IsList b items2) (hsz : items.size ≠ items2.size) (hu : A.units < cLine)
    (E Q : Value → Shared → Prop) (h : Q (.bool false) s) : wpAny (model prog w) A (richCompare .Eq (.ref l) (.ref b)) Q E s := by
  obtain ⟨⟨cls, dd, data, sl⟩, ho, hc, n, hd⟩ := id hl
  obtain ⟨⟨cls2, dd2, data2, sl2⟩, ho2, hc2, n2, hd2⟩ := id hb
  simp only at hc hd hc2 hd2
  subst hc hd hc2 hd2
  have ta : s.TypeIs (.ref l) "list" := ⟨_, ho, rfl⟩
  have tb : s.TypeIs (.ref b) "list" := ⟨_, ho2, rfl⟩
  exact wpAny_richCompare_same_room (op := .Eq) ta tb F.slot_list_eq (call_meetsIn F.slot_list_eq ta F.entry_list_eq (F.args_list_eq_2 _ _) (tw_list_neIn l b items items2 n n2 dd dd2 sl sl2 hsz)
    ⟨ho, ho2, show Value.bool false ≠ Value.notImplemented ∧ Q (.bool false) s from ⟨(fun x => nomatch x), h⟩⟩) hu
end
end PySem.SeqAt
namespace Tw
open PySem PySem.Spec PyProof.Rows L2
/-! ### a list == [] -/
def rEqE (K : PySem.W.Frag) : R2 := fun x y H Q => ∃ a b xs, x = .ref a ∧ y = .ref b ∧ SqL K H a xs ∧ SqL K H b [] ∧ Q (.bl (decide (xs.length = 0))) H
theorem op_eqE {X : Cx} {k : Nat} (hr : Room k X.A) : OpR X (compareOp .Eq) (rEqE X.K) := by
  intro pins s σ H x y v u Q I rx ry h
  obtain ⟨a, b, xs, rfl, rfl, ha, hb, q⟩ := h
  cases (show v = Value.ref a from rx)
  cases (show u = Value.ref b from ry)
  obtain ⟨us, r1, p1, _⟩ := I.list ha
  obtain ⟨ws, r2, p2, _⟩ := I.list hb
  have hw : ws.toArray.size = 0 := by rw [List.size_toArray, ← r2.length]; rfl
  by_cases e : xs.length = 0
  · rw [decide_eq_true e] at q
    have hu : us.toArray.size = 0 := by rw [List.size_toArray, ← r1.length]; exact e
    refine SeqAt.rcP_lists (e := fun _ => true) p1.isList p2.isList (by rw [hu, hw]) (by have := hr.units; omega) (fun j h1 h2 => by omega) _ _ ?_
    rw [hu]
    exact ⟨.bl true, H, I, rfl, q⟩
  · rw [decide_eq_false e] at q
    have hu : us.toArray.size ≠ ws.toArray.size := by rw [hw, List.size_toArray, ← r1.length]; exact e
    exact SeqAt.tw_lists_ne p1.isList p2.isList hu (by have := hr.units; omega) _ _ ⟨.bl false, H, I, rfl, q⟩
/-! ### methods called in a try -/
section
variable {X : Cx} {CX : CXT} {k : Nat} {C : Addr} {m : Str} {ps : List Str} {sp : Sp} {E : L2.St → XK} {o e : Expr} {es : List Expr} {ta : TE} {t : TA} {apos pos : Pos}
def tMethS (C : Addr) (m : Str) (sp : Sp) (E : L2.St → XK) (ta : TE) (t : TA) : TE := fun σ H Q => ta σ H fun x H1 => ∃ a dx fs, x = .ref a ∧ H1 a = some (.ins C dx fs) ∧ fs.lookup m = none ∧
  t σ H1 fun vs H2 => sp (x :: vs) H2 Q (E σ)
theorem pe_mdS {pl : Sem Bool} (he : PE X o ta) (c : Cls X.K C) (G : OkM X.prog X.w X.K X.mg X.base CX k C m ps sp) (hr : Room k X.A) (hx : ∀ σ, PassesAt CX X σ (E σ)) (ha : PA X (e :: es) t)
    (hst : starEach (e :: es) X.env = (false, eval e X.env) :: starEach es X.env := by rfl) (hpl : (backTo pos (starEach es X.env)).any (·.1) = false := by rfl)
    (ht : eval (.Call (.Attribute o m apos) (e :: es) [] pos) X.env = (do
      let v ← eval o X.env
      standAt apos.atName
      let (g, fr) ← holding [v] (getMethod v m pl)
      callWith pos g fr (backTo pos (starEach (e :: es) X.env)) (backToKw pos (keywordEach [] X.env))) := by rfl) :
    PE X (.Call (.Attribute o m apos) (e :: es) [] pos) (tMethS C m sp E ta t) := by
  obtain ⟨f, fd, hm, hb, F⟩ := G.ex
  refine ⟨fun pins s σ H Q I h => ?_⟩
  refine PySem.W.methodCall_KW (pl := pl) (thn (he.run pins s σ H _ I h) fun u z ⟨x, H1, I1, rx, a, dx, fs, ex, ea, no, q⟩ => ?_) ht
  subst ex; obtain rfl : u = Value.ref a := rx
  refine getmeth_ok I1 ea c hm no ?_
  have ra := ha.run pos pins z σ H1 _ I1 q
  refine PySem.W.callWith_K (first := [.ref a]) (h₀ := X.base) I.ok.mod.kin hm.kp (thn ra fun us z2 ⟨vs, H2, I2, r, q2⟩ => ⟨I2.kIn, ?_⟩) hst hpl
  exact run_fnS (us := .ref a :: us) (vs := .ref a :: vs) F hr hb (hx σ) I2 (.cons rfl r) q2
theorem pe_md0S {pl : Sem Bool} (he : PE X o ta) (c : Cls X.K C) (G : OkM X.prog X.w X.K X.mg X.base CX k C m ps sp) (hr : Room k X.A) (hx : ∀ σ, PassesAt CX X σ (E σ))
    (ht : eval (.Call (.Attribute o m apos) [] [] pos) X.env = (do
      let v ← eval o X.env
      standAt apos.atName
      let (g, fr) ← holding [v] (getMethod v m pl)
      callWith pos g fr (backTo pos (starEach [] X.env)) (backToKw pos (keywordEach [] X.env))) := by rfl) :
    PE X (.Call (.Attribute o m apos) [] [] pos) (tMethS C m sp E ta tNil) := by
  obtain ⟨f, fd, hm, hb, F⟩ := G.ex
  refine ⟨fun pins s σ H Q I h => ?_⟩
  refine PySem.W.methodCall_KW (pl := pl) (thn (he.run pins s σ H _ I h) fun u z ⟨x, H1, I1, rx, a, dx, fs, ex, ea, no, q⟩ => ?_) ht
  subst ex; obtain rfl : u = Value.ref a := rx
  refine getmeth_ok I1 ea c hm no ?_
  exact PySem.W.callWith_K0 (first := [.ref a]) I1.kIn hm.kp (run_fnS (us := [.ref a]) (vs := [.ref a]) F hr hb (hx σ) I1 (.cons rfl .nil) q)
/-! ### an object made -/
theorem OkM.mk_eq {P : Program} {w : World} {K : PySem.W.Frag} {mg : Str → Option Value} {base : Heap} (G : OkM P w K mg base CX k C "__init__" ps sp) (M : ∃ f, Mk K C f) :
    ∃ f fd, Mk K C f ∧ Binds K fd ps [] ∧ FnOk P w K mg base CX k f fd ps sp := by
  obtain ⟨f, M⟩ := M
  obtain ⟨g, fd, hm, hb, F⟩ := G.ex
  have e := M.init
  rw [hm.at_] at e
  cases e
  exact ⟨_, fd, M, hb, F⟩
theorem pe_mkM {x : Str} {p : Pos} {E : XK} (G : OkM X.prog X.w X.K X.mg X.base CX k C "__init__" ps sp) (M : ∃ f, Mk X.K C f) (hr : Room (k + 1) X.A) (hm : X.mg x = some (.ref C)) (hx : Passes CX X E) (ha : PA X (e :: es) t)
    (hg : Gl X x := by rfl) (hdb : (x == ("__debug__" : Str)) = false := by decide)
    (he : starEach (e :: es) X.env = (false, eval e X.env) :: starEach es X.env := by rfl) (hpl : (backTo pos (starEach es X.env)).any (·.1) = false := by rfl) :
    PE X (.Call (.Name x p) (e :: es) [] pos) (tMake C sp [] E t) := by
  obtain ⟨f, fd, M, hb, F⟩ := G.mk_eq M
  exact pe_make M F hr hg hm hb .nil hx ha hdb he hpl
def tMakeS (C : Addr) (sp : Sp) (E : L2.St → XK) (t : TA) : TE := fun σ H Q => t σ H fun vs H1 => ∀ x dx, H1 x = none → H1 dx = none → dx ≠ x →
  sp (.ref x :: vs) (upd (upd H1 dx (.own x)) x (.ins C dx [])) (fun v H2 => v = .non ∧ Q (.ref x) H2) (E σ)
theorem pe_mkS {x : Str} {p : Pos} (G : OkM X.prog X.w X.K X.mg X.base CX k C "__init__" ps sp) (M : ∃ f, Mk X.K C f) (hr : Room (k + 1) X.A) (hm : X.mg x = some (.ref C)) (hx : ∀ σ, PassesAt CX X σ (E σ)) (ha : PA X (e :: es) t)
    (hg : Gl X x := by rfl) (hdb : (x == ("__debug__" : Str)) = false := by decide)
    (he : starEach (e :: es) X.env = (false, eval e X.env) :: starEach es X.env := by rfl) (hpl : (backTo pos (starEach es X.env)).any (·.1) = false := by rfl) :
    PE X (.Call (.Name x p) (e :: es) [] pos) (tMakeS C sp E t) := by
  obtain ⟨f, fd, M, hb, F⟩ := G.mk_eq M
  refine ⟨fun pins s σ H Q I h => ?_⟩
  refine wpAny_Call_Name_kw (ld_glob I hg hm ?_ hdb)
  have ra := ha.run pos pins s σ H _ I h
  refine PySem.W.callWith_K (h₀ := X.base) I.ok.mod.kin M.kp (thn ra fun us z ⟨vs, H1, I1, r, q⟩ => ⟨I1.kIn, ?_⟩) he hpl
  have hq := q (z.heap.objs.size + 1) z.heap.objs.size (I1.hok.fresh (Nat.le_succ _)) (I1.hok.fresh (Nat.le_refl _)) (Nat.ne_of_lt (Nat.lt_succ_self _))
  have I2 := Inv.made (C := C) I1
  have r2 : Vals (V.ref (z.heap.objs.size + 1) :: vs) (Value.ref (z.heap.objs.size + 1) :: us) := .cons rfl r
  have hl : (Value.ref (z.heap.objs.size + 1) :: us ++ []).length = ps.length := by
    have l2 := r2.length
    rw [F.len _ _ _ _ hq] at l2
    rw [List.append_nil]; exact l2.symm
  have hb2 := hb _ (Value.ref (z.heap.objs.size + 1) :: us) I2.kIn hl
  rw [List.append_nil] at hb2
  have run := F.run _ X.stack _ _ ⟨Value.ref (z.heap.objs.size + 1) :: us, []⟩ (Value.ref (z.heap.objs.size + 1) :: us) _ _ (E σ) (hr.make C us []) (I2.env0.make C us []) hb2 r2 hq
  refine wpAny_call (make_map (f := f) I1.kIn M.makes M.init (beq_iff_eq.mp M.fn) (codeAny_mono run fun o z' hz => ?_))
  match o, hz with
  | .error e, hz => exact hx σ pins _ _ e z' I2 hz
  | .ok (.ret u), hz =>
    obtain ⟨v, H', I3, rv, ev, q3⟩ := I2.after hz
    subst ev
    exact ⟨rv, ⟨V.ref (z.heap.objs.size + 1), H', I3, rfl, q3⟩⟩
end
/-- what making a page asks -/
structure PgM (K : PySem.W.Frag) (mg : Str → Option Value) (C : Addr) : Prop where
  mkC : ∃ f, Mk K C f
  g : mg "Page" = some (.ref C)
  is : C8.InsC K C
end Tw
namespace Tw
open PySem PySem.Spec PyProof.Rows L2
/-! ### heaps: what may change (Mu) and what stands -/
def Fz (Mu : List Addr) (H : Hp) (a : Addr) (o : HO) : Prop := H a = some o ∧ a ∉ Mu
def Kp (L : List Addr) (H H' : Hp) : Prop := ∀ b o, b ∉ L → H b = some o → H' b = some o
def Live (Mu : List Addr) (H : Hp) : Prop := ∀ b ∈ Mu, H b ≠ none
theorem Kp.refl (L : List Addr) (H : Hp) : Kp L H H := fun _ _ _ e => e
theorem Kp.trans {L : List Addr} {H H' H'' : Hp} (a : Kp L H H') (b : Kp L H' H'') : Kp L H H'' := fun x o h e => b x o h (a x o h e)
theorem Kp.mono {L L' : List Addr} {H H' : Hp} (a : Kp L H H') (h : ∀ x ∈ L, x ∈ L') : Kp L' H H' := fun x o n e => a x o (fun z => n (h x z)) e
theorem Kp.of {L : List Addr} {H H' : Hp} (s : Same H H') : Kp L H H' := fun x o _ e => s x o e
theorem Kp.free {L : List Addr} {H H' : Hp} (a : Kp L H H') {x : Addr} (h : x ∉ L) (n : H' x = none) : H x = none := by
  cases e : H x with
  | none => rfl
  | some o => rw [a x o h e] at n; cases n
theorem Fz.keep {Mu L : List Addr} {H H' : Hp} {a : Addr} {o : HO} (f : Fz Mu H a o) (k : Kp L H H') (h : ∀ x ∈ L, x ∈ Mu) : Fz Mu H' a o := ⟨k a o (fun z => f.2 (h a z)) f.1, f.2⟩
theorem Fz.same {Mu : List Addr} {H H' : Hp} {a : Addr} {o : HO} (f : Fz Mu H a o) (s : Same H H') : Fz Mu H' a o := ⟨s a o f.1, f.2⟩
theorem Fz.more {Mu : List Addr} {H : Hp} {a x : Addr} {o : HO} (f : Fz Mu H a o) (n : H x = none) : Fz (x :: Mu) H a o := ⟨f.1, fun z => by
  rcases List.mem_cons.mp z with z | z
  · rw [← z, f.1] at n; cases n
  · exact f.2 z⟩
theorem Live.nin {Mu : List Addr} {H : Hp} (l : Live Mu H) {a : Addr} (n : H a = none) : a ∉ Mu := fun z => l a z n
theorem Live.same {Mu : List Addr} {H H' : Hp} (l : Live Mu H) (s : Same H H') : Live Mu H' := fun b hb z => l b hb (s.free z)
theorem Live.fz {Mu : List Addr} {H H' : Hp} (l : Live Mu H) {a : Addr} {o : HO} (n : H a = none) (e : H' a = some o) : Fz Mu H' a o := ⟨e, l.nin n⟩
/-! ### a page's state, and deeds -/
abbrev Pst := List (List Nat) × Int
def goodW (w : List Nat) : Prop := w ≠ [] ∧ 32 ∉ w ∧ 10 ∉ w
instance (w : List Nat) : Decidable (goodW w) := inferInstanceAs (Decidable (w ≠ [] ∧ 32 ∉ w ∧ 10 ∉ w))
structure Pok (s : Pst) : Prop where
  le : s.1.length ≤ 120
  pl : ∀ x ∈ s.1, plainTx x ∧ x.length ≤ 400
  wb : Wb s.2
  ft : Ft s.1 s.2
theorem Pok.tot {s : Pst} (h : Pok s) : total s.1 ≤ 48000 := by
  have h1 := total_le (b := 400) fun x hx => (h.pl x hx).2
  have := h.le
  have h2 : s.1.length * 400 ≤ 120 * 400 := Nat.mul_le_mul_right _ this
  omega
theorem Pok.bw {s : Pst} (h : Pok s) : Bw s.1 := ⟨by have := h.le; omega, by have := h.tot; omega, fun x hx => (h.pl x hx).1⟩
structure Mo where
  st : Pst
  past : List Pst
structure Mo.ok (m : Mo) : Prop where
  st : Pok m.st
  past : ∀ s ∈ m.past, Pok s
  len : m.past.length ≤ 100000
inductive Deed where
  | put (i : Int) (w : List Nat)
  | drop (i : Int)
  | widen (m : Int)
  | undo
  | fill
def Deed.nm : Deed → Str
  | .put _ _ => "put"
  | .drop _ => "drop"
  | .widen _ => "widen"
  | .undo => "undo"
  | .fill => "fill"
def Deed.vals : Deed → List V
  | .put i w => [.str "put", .int i, vt w]
  | .drop i => [.str "drop", .int i]
  | .widen m => [.str "widen", .int m]
  | .undo => [.str "undo"]
  | .fill => [.str "fill"]
theorem Deed.at0 (d : Deed) : atI d.vals ((0 : Nat) : Int) = some (.str d.nm) := by cases d <;> rfl
def Deed.ok : Deed → Prop
  | .put _ w => plainTx w ∧ w.length ≤ 400
  | .widen m => Wb m
  | .fill => False
  | _ => True
def due (m : Mo) : Deed → Nat
  | .put i w => if ¬ (0 ≤ i ∧ i ≤ (m.st.1.length : Nat)) then 17 else if ¬ goodW w then 18 else if m.st.2 < (w.length : Nat) then 12 else if 120 ≤ m.st.1.length then 19 else 0
  | .drop i => if ¬ (0 ≤ i ∧ i < (m.st.1.length : Nat)) then 17 else 0
  | .widen k => if k < 1 then 11 else if k < (longest m.st.1 : Nat) then 12 else 0
  | _ => if m.past = [] then 20 else 0
def putAt (ws : List (List Nat)) (k : Nat) (w : List Nat) : List (List Nat) := ws.take k ++ [w] ++ ws.drop k
def dropAt (ws : List (List Nat)) (k : Nat) : List (List Nat) := ws.take k ++ ws.drop (k + 1)
def aft (m : Mo) : Deed → Mo
  | .put i w => ⟨(putAt m.st.1 i.toNat w, m.st.2), m.past ++ [m.st]⟩
  | .drop i => ⟨(dropAt m.st.1 i.toNat, m.st.2), m.past ++ [m.st]⟩
  | .widen k => ⟨(m.st.1, k), m.past ++ [m.st]⟩
  | _ => ⟨m.past.getLast?.getD m.st, m.past.dropLast⟩
def nxt (m : Mo) (d : Deed) : Mo := if due m d = 0 then aft m d else m
def ans (m : Mo) : Deed → V
  | .drop i => vt (m.st.1.getD i.toNat [])
  | _ => .non
theorem due_put {m : Mo} {i : Int} {w : List Nat} (h : due m (.put i w) = 0) : (0 ≤ i ∧ i ≤ (m.st.1.length : Nat)) ∧ goodW w ∧ ((w.length : Nat) : Int) ≤ m.st.2 ∧ m.st.1.length < 120 := by
  simp only [due] at h
  split at h
  · omega
  · split at h
    · omega
    · split at h
      · omega
      · split at h
        · omega
        · rename_i h1 h2 h3 h4
          exact ⟨Decidable.not_not.mp h1, Decidable.not_not.mp h2, by omega, by omega⟩
theorem due_put17 {m : Mo} {i : Int} {w : List Nat} (h : ¬ (0 ≤ i ∧ i ≤ (m.st.1.length : Nat))) : due m (.put i w) = 17 := by simp only [due]; rw [if_pos h]
theorem due_put18 {m : Mo} {i : Int} {w : List Nat} (h : 0 ≤ i ∧ i ≤ (m.st.1.length : Nat)) (h2 : ¬ goodW w) : due m (.put i w) = 18 := by simp only [due]; rw [if_neg (fun z => z h), if_pos h2]
theorem due_put12 {m : Mo} {i : Int} {w : List Nat} (h : 0 ≤ i ∧ i ≤ (m.st.1.length : Nat)) (h2 : goodW w) (h3 : m.st.2 < (w.length : Nat)) : due m (.put i w) = 12 := by
  simp only [due]; rw [if_neg (fun z => z h), if_neg (fun z => z h2), if_pos h3]
theorem due_put19 {m : Mo} {i : Int} {w : List Nat} (h : 0 ≤ i ∧ i ≤ (m.st.1.length : Nat)) (h2 : goodW w) (h3 : ¬ m.st.2 < (w.length : Nat)) (h4 : 120 ≤ m.st.1.length) : due m (.put i w) = 19 := by
  simp only [due]; rw [if_neg (fun z => z h), if_neg (fun z => z h2), if_neg h3, if_pos h4]
theorem due_put0 {m : Mo} {i : Int} {w : List Nat} (h : 0 ≤ i ∧ i ≤ (m.st.1.length : Nat)) (h2 : goodW w) (h3 : ¬ m.st.2 < (w.length : Nat)) (h4 : ¬ 120 ≤ m.st.1.length) : due m (.put i w) = 0 := by
  simp only [due]; rw [if_neg (fun z => z h), if_neg (fun z => z h2), if_neg h3, if_neg h4]
theorem due_drop17 {m : Mo} {i : Int} (h : ¬ (0 ≤ i ∧ i < (m.st.1.length : Nat))) : due m (.drop i) = 17 := by simp only [due]; rw [if_pos h]
theorem due_drop0 {m : Mo} {i : Int} (h : 0 ≤ i ∧ i < (m.st.1.length : Nat)) : due m (.drop i) = 0 := by simp only [due]; rw [if_neg (fun z => z h)]
theorem due_widen11 {m : Mo} {k : Int} (h : k < 1) : due m (.widen k) = 11 := by simp only [due]; rw [if_pos h]
theorem due_widen12 {m : Mo} {k : Int} (h : ¬ k < 1) (h2 : k < (longest m.st.1 : Nat)) : due m (.widen k) = 12 := by simp only [due]; rw [if_neg h, if_pos h2]
theorem due_widen0 {m : Mo} {k : Int} (h : ¬ k < 1) (h2 : ¬ k < (longest m.st.1 : Nat)) : due m (.widen k) = 0 := by simp only [due]; rw [if_neg h, if_neg h2]
theorem due_undo20 {m : Mo} (h : m.past = []) : due m .undo = 20 := by simp only [due]; rw [if_pos h]
theorem due_undo0 {m : Mo} (h : m.past ≠ []) : due m .undo = 0 := by simp only [due]; rw [if_neg h]
theorem nmE (a b : Str) : decide (V.str a = V.str b) = decide (a = b) := by
  simp only [decide_eq_decide]; exact ⟨fun h => by cases h; rfl, fun h => by rw [h]⟩
theorem nDP : ¬ (("drop" : Str) = "put") := by decide +kernel
theorem nWP' : ¬ (("widen" : Str) = "put") := by decide +kernel
theorem nUP : ¬ (("undo" : Str) = "put") := by decide +kernel
theorem nWD : ¬ (("widen" : Str) = "drop") := by decide +kernel
theorem nUD : ¬ (("undo" : Str) = "drop") := by decide +kernel
theorem nUW : ¬ (("undo" : Str) = "widen") := by decide +kernel
theorem nPD : ¬ (("put" : Str) = "drop") := by decide +kernel
theorem nPU : ¬ (("put" : Str) = "undo") := by decide +kernel
theorem nDU : ¬ (("drop" : Str) = "undo") := by decide +kernel
theorem nWU : ¬ (("widen" : Str) = "undo") := by decide +kernel
theorem nPF : ¬ (("put" : Str) = "fill") := by decide +kernel
theorem nDF : ¬ (("drop" : Str) = "fill") := by decide +kernel
theorem nWF : ¬ (("widen" : Str) = "fill") := by decide +kernel
theorem nUF : ¬ (("undo" : Str) = "fill") := by decide +kernel
theorem due_drop {m : Mo} {i : Int} (h : due m (.drop i) = 0) : 0 ≤ i ∧ i < (m.st.1.length : Nat) := by
  simp only [due] at h
  split at h
  · omega
  · rename_i h1; exact Decidable.not_not.mp h1
theorem due_widen {m : Mo} {k : Int} (h : due m (.widen k) = 0) : 1 ≤ k ∧ ((longest m.st.1 : Nat) : Int) ≤ k := by
  simp only [due] at h
  split at h
  · omega
  · split at h
    · omega
    · omega
theorem due_undo {m : Mo} (h : due m .undo = 0) : m.past ≠ [] := by
  simp only [due] at h
  split at h
  · omega
  · assumption
theorem Pok.put {s : Pst} (h : Pok s) {w : List Nat} (hw : plainTx w) (hl : w.length ≤ 400) (hf : ((w.length : Nat) : Int) ≤ s.2) (h1 : s.1.length < 120) (k : Nat) (hk : k ≤ s.1.length) : Pok (putAt s.1 k w, s.2) := by
  have hm : ∀ x ∈ putAt s.1 k w, x ∈ s.1 ∨ x = w := fun x hx => by
    rcases List.mem_append.mp hx with z | z
    · rcases List.mem_append.mp z with z | z
      · exact .inl (List.mem_of_mem_take z)
      · exact .inr (List.mem_singleton.mp z)
    · exact .inl (List.mem_of_mem_drop z)
  refine ⟨?_, fun x hx => ?_, h.wb, h.ft.1, fun x hx => ?_⟩
  · show (putAt s.1 k w).length ≤ 120
    unfold putAt
    rw [List.length_append, List.length_append, List.length_take, List.length_drop, List.length_singleton]; omega
  · rcases hm x hx with z | z
    · exact h.pl x z
    · rw [z]; exact ⟨hw, hl⟩
  · rcases hm x hx with z | z
    · exact h.ft.2 x z
    · rw [z]; exact hf
theorem Pok.drop {s : Pst} (h : Pok s) (k : Nat) : Pok (dropAt s.1 k, s.2) := by
  have hm : ∀ x ∈ dropAt s.1 k, x ∈ s.1 := fun x hx => by
    rcases List.mem_append.mp hx with z | z
    · exact List.mem_of_mem_take z
    · exact List.mem_of_mem_drop z
  have hl : (dropAt s.1 k).length ≤ 120 := by
    have := h.le
    unfold dropAt
    rw [List.length_append, List.length_take, List.length_drop]; omega
  exact ⟨hl, fun x hx => h.pl x (hm x hx), h.wb, h.ft.1, fun x hx => h.ft.2 x (hm x hx)⟩
theorem aft_ok {m : Mo} {d : Deed} (h : m.ok) (hd : d.ok) (h0 : due m d = 0) (hl : m.past.length < 100000) : (aft m d).ok := by
  have hp : ∀ s ∈ m.past ++ [m.st], Pok s := fun s hs => by
    rcases List.mem_append.mp hs with z | z
    · exact h.past s z
    · rw [List.mem_singleton.mp z]; exact h.st
  have hl2 : (m.past ++ [m.st]).length ≤ 100000 := by rw [List.length_append, List.length_singleton]; omega
  cases d with
  | put i w =>
    obtain ⟨h1, h2, h3, h4⟩ := due_put h0
    exact ⟨h.st.put hd.1 hd.2 h3 h4 i.toNat (by omega), hp, hl2⟩
  | drop i => exact ⟨h.st.drop _, hp, hl2⟩
  | widen k =>
    obtain ⟨h1, h2⟩ := due_widen h0
    exact ⟨⟨h.st.le, h.st.pl, hd, Ft.of h1 h2⟩, hp, hl2⟩
  | undo =>
    have h1 := due_undo h0
    refine ⟨?_, fun s hs => h.past s (List.dropLast_subset _ hs), ?_⟩
    · show Pok (m.past.getLast?.getD m.st)
      rw [List.getLast?_eq_getLast h1]
      exact h.past _ (List.getLast_mem h1)
    · show m.past.dropLast.length ≤ 100000
      rw [List.length_dropLast]; omega
  | fill => exact hd.elim
theorem nxt_ok {m : Mo} {d : Deed} (h : m.ok) (hd : d.ok) (hl : m.past.length < 100000) : (nxt m d).ok := by
  unfold nxt
  by_cases e : due m d = 0
  · rw [if_pos e]; exact aft_ok h hd e hl
  · rw [if_neg e]; exact h
theorem aft_len (m : Mo) (d : Deed) : (aft m d).past.length ≤ m.past.length + 1 := by
  cases d <;> (unfold aft; simp; try omega)
theorem nxt_len (m : Mo) (d : Deed) : (nxt m d).past.length ≤ m.past.length + 1 := by
  unfold nxt
  by_cases e : due m d = 0
  · rw [if_pos e]; exact aft_len m d
  · rw [if_neg e]; omega
/-! ### where they stand -/
structure RowAt (Mu : List Addr) (H : Hp) (r t : Addr) (s : Pst) : Prop where
  r : Fz Mu H r (.lst (vts s.1))
  t : ∃ xs, Fz Mu H t (.lst (vis xs)) ∧ xs.length = s.1.length + 1 ∧ Tab s.1 s.2 (fun k => xs.getD k 0)
abbrev PE4 := Addr × Addr × Addr × Pst
structure PastAt (Mu : List Addr) (H : Hp) (e : PE4) : Prop where
  a : Fz Mu H e.1 (.tup [.ref e.2.1, .int e.2.2.2.2, .ref e.2.2.1])
  row : RowAt Mu H e.2.1 e.2.2.1 e.2.2.2
structure PgAt (C : Addr) (Mu : List Addr) (H : Hp) (p q : Addr) (m : Mo) : Prop where
  ok : m.ok
  pm : p ∈ Mu
  qm : q ∈ Mu
  pq : p ≠ q
  live : Live Mu H
  ex : ∃ dx fs r t, H p = some (.ins C dx fs) ∧ PgF fs m.st.2 r t q ∧ RowAt Mu H r t m.st
  past : ∃ L : List PE4, H q = some (.lst (L.map fun e => V.ref e.1)) ∧ m.past = L.map (fun e => e.2.2.2) ∧ ∀ e ∈ L, PastAt Mu H e
abbrev NE3 := Addr × Addr × Pst
structure NowAt (Mu : List Addr) (H : Hp) (now : Addr) (m : Mo) : Prop where
  ex : ∃ r q, Fz Mu H now (.tup [.ref r, .int m.st.2, .ref q]) ∧ Fz Mu H r (.lst (vts m.st.1)) ∧
    ∃ L : List NE3, Fz Mu H q (.lst (L.map fun e => V.ref e.1)) ∧ m.past = L.map (fun e => e.2.2) ∧ ∀ e ∈ L, Fz Mu H e.1 (.tup [.ref e.2.1, .int e.2.2.2]) ∧ Fz Mu H e.2.1 (.lst (vts e.2.2.1))
theorem RowAt.keep {Mu L : List Addr} {H H' : Hp} {r t : Addr} {s : Pst} (h : RowAt Mu H r t s) (k : Kp L H H') (hl : ∀ x ∈ L, x ∈ Mu) : RowAt Mu H' r t s :=
  ⟨h.r.keep k hl, by obtain ⟨xs, h1, h2⟩ := h.t; exact ⟨xs, h1.keep k hl, h2⟩⟩
theorem PastAt.keep {Mu L : List Addr} {H H' : Hp} {e : PE4} (h : PastAt Mu H e) (k : Kp L H H') (hl : ∀ x ∈ L, x ∈ Mu) : PastAt Mu H' e := ⟨h.a.keep k hl, h.row.keep k hl⟩
theorem NowAt.keep {Mu L : List Addr} {H H' : Hp} {now : Addr} {m : Mo} (h : NowAt Mu H now m) (k : Kp L H H') (hl : ∀ x ∈ L, x ∈ Mu) : NowAt Mu H' now m := by
  obtain ⟨r, q, h1, h2, M, h3, h4, h5⟩ := h.ex
  exact ⟨r, q, h1.keep k hl, h2.keep k hl, M, h3.keep k hl, h4, fun e he => ⟨(h5 e he).1.keep k hl, (h5 e he).2.keep k hl⟩⟩
theorem NowAt.same {Mu : List Addr} {H H' : Hp} {now : Addr} {m : Mo} (h : NowAt Mu H now m) (s : Same H H') : NowAt Mu H' now m := h.keep (L := []) (Kp.of s) (fun _ z => nomatch z)
/-- a page stands while other things change -/
theorem PgAt.keep {C : Addr} {Mu L : List Addr} {H H' : Hp} {p q : Addr} {m : Mo} (h : PgAt C Mu H p q m) (k : Kp L H H') (hl : ∀ x ∈ L, x ∈ Mu) (hp : p ∉ L) (hq : q ∉ L) (lv : Live L H') : PgAt C Mu H' p q m := by
  obtain ⟨dx, fs, r, t, e1, e2, e3⟩ := h.ex
  obtain ⟨M, f1, f2, f3⟩ := h.past
  refine ⟨h.ok, h.pm, h.qm, h.pq, fun b hb z => ?_, ⟨dx, fs, r, t, k _ _ hp e1, e2, e3.keep k hl⟩, ⟨M, k _ _ hq f1, f2, fun e he => (f3 e he).keep k hl⟩⟩
  by_cases hb2 : b ∈ L
  · exact lv b hb2 z
  · exact h.live b hb (k.free hb2 z)
theorem PgAt.same {C : Addr} {Mu : List Addr} {H H' : Hp} {p q : Addr} {m : Mo} (h : PgAt C Mu H p q m) (s : Same H H') : PgAt C Mu H' p q m :=
  h.keep (L := []) (Kp.of s) (fun _ z => nomatch z) (fun z => nomatch z) (fun z => nomatch z) (fun _ z => nomatch z)
/-- another thing that may change -/
theorem PgAt.more {C : Addr} {Mu : List Addr} {H : Hp} {p q : Addr} {m : Mo} (h : PgAt C Mu H p q m) {x : Addr} {o : HO} (e : H x = some o)
    (nr : ∀ a o, Fz Mu H a o → a ≠ x) : PgAt C (x :: Mu) H p q m := by
  have fz : ∀ {a o}, Fz Mu H a o → Fz (x :: Mu) H a o := fun {a o} f => ⟨f.1, fun z => by
    rcases List.mem_cons.mp z with z | z
    · exact nr a o f z
    · exact f.2 z⟩
  have rw' : ∀ {r t s}, RowAt Mu H r t s → RowAt (x :: Mu) H r t s := fun {r t s} f => ⟨fz f.r, by obtain ⟨xs, g1, g2⟩ := f.t; exact ⟨xs, fz g1, g2⟩⟩
  obtain ⟨dx, fs, r, t, e1, e2, e3⟩ := h.ex
  obtain ⟨M, f1, f2, f3⟩ := h.past
  refine ⟨h.ok, List.mem_cons_of_mem _ h.pm, List.mem_cons_of_mem _ h.qm, h.pq, fun b hb z => ?_, ⟨dx, fs, r, t, e1, e2, rw' e3⟩, ⟨M, f1, f2, fun e he => ⟨fz (f3 e he).a, rw' (f3 e he).row⟩⟩⟩
  rcases List.mem_cons.mp hb with y | y
  · rw [y, e] at z; cases z
  · exact h.live b y z
theorem cut_last (xs : List V) (x : V) : cutV (xs ++ [x]) none (some (-1)) = xs := by
  unfold cutV
  have e : HT.sIx (xs ++ [x]).length (xs ++ [x]).length (some (-1)) = xs.length := by
    show (if (-1 : Int) < 0 then ((-1 : Int) + ((xs ++ [x]).length : Int)).toNat else min (-1 : Int).toNat (xs ++ [x]).length) = _
    rw [if_pos (by decide), List.length_append, List.length_singleton]; omega
  rw [e]
  show ((xs ++ [x]).drop 0).take (xs.length - 0) = xs
  rw [List.drop_zero, Nat.sub_zero, List.take_append_of_le_length (Nat.le_refl _), List.take_length]
theorem last_at (xs : List V) (x : V) : atI (xs ++ [x]) (-1) = some x := by
  rw [atI_neg1 (by simp), List.getLast_append]; rfl
end Tw
namespace Tw
open PySem PySem.Spec PyProof.Rows L2
def topS (i : Nat) : Stmt := PySem.Challenge.pw_textwrapper_k14_whole_page_kept.main.body.getD i (.Pass ⟨0, 0, 0, 0⟩)
def clsS (i j : Nat) : Stmt := match topS i with | .ClassDef _ _ _ body _ _ _ _ _ _ _ => body.getD j (.Pass ⟨0, 0, 0, 0⟩) | _ => .Pass ⟨0, 0, 0, 0⟩
abbrev st_size_of : Stmt := topS 13
abbrev N_size_of : List Str := ["words", "begin", "end", "size", "word"]
theorem sc_size_of : FnScope N_size_of ["words", "begin", "end"] (defScope st_size_of) := ⟨rfl, rfl, rfl, by decide +kernel, rfl, by decide +kernel, by decide +kernel⟩
abbrev st_need_width : Stmt := topS 14
abbrev N_need_width : List Str := ["width"]
theorem sc_need_width : FnScope N_need_width ["width"] (defScope st_need_width) := ⟨rfl, rfl, rfl, by decide +kernel, rfl, by decide +kernel, by decide +kernel⟩
abbrev st_long_word : Stmt := topS 15
abbrev N_long_word : List Str := ["words", "width", "at"]
theorem sc_long_word : FnScope N_long_word ["words", "width"] (defScope st_long_word) := ⟨rfl, rfl, rfl, by decide +kernel, rfl, by decide +kernel, by decide +kernel⟩
abbrev st_need_fits : Stmt := topS 16
abbrev N_need_fits : List Str := ["words", "width"]
theorem sc_need_fits : FnScope N_need_fits ["words", "width"] (defScope st_need_fits) := ⟨rfl, rfl, rfl, by decide +kernel, rfl, by decide +kernel, by decide +kernel⟩
abbrev st_line_price : Stmt := topS 17
abbrev N_line_price : List Str := ["words", "width", "begin", "end", "gap"]
theorem sc_line_price : FnScope N_line_price ["words", "width", "begin", "end"] (defScope st_line_price) := ⟨rfl, rfl, rfl, by decide +kernel, rfl, by decide +kernel, by decide +kernel⟩
abbrev st_are_starts : Stmt := topS 19
abbrev N_are_starts : List Str := ["words", "starts", "k"]
theorem sc_are_starts : FnScope N_are_starts ["words", "starts"] (defScope st_are_starts) := ⟨rfl, rfl, rfl, by decide +kernel, rfl, by decide +kernel, by decide +kernel⟩
abbrev st_spans_of : Stmt := topS 20
abbrev N_spans_of : List Str := ["words", "starts", "ends", "k"]
theorem sc_spans_of : FnScope N_spans_of ["words", "starts"] (defScope st_spans_of) := ⟨rfl, rfl, rfl, by decide +kernel, rfl, by decide +kernel, by decide +kernel⟩
abbrev st_lines_of : Stmt := topS 21
abbrev N_lines_of : List Str := ["words", "starts", "span"]
theorem sc_lines_of : FnScope N_lines_of ["words", "starts"] (defScope st_lines_of) := ⟨rfl, rfl, rfl, by decide +kernel, rfl, by decide +kernel, by decide +kernel⟩
abbrev st_best_end : Stmt := topS 23
abbrev N_best_end : List Str := ["words", "width", "table", "at", "found", "least", "size", "end", "price"]
theorem sc_best_end : FnScope N_best_end ["words", "width", "table", "at"] (defScope st_best_end) := ⟨rfl, rfl, rfl, by decide +kernel, rfl, by decide +kernel, by decide +kernel⟩
abbrev st_grown : Stmt := topS 24
abbrev N_grown : List Str := ["words", "width", "tail", "count", "table", "at", "end", "k"]
theorem sc_grown : FnScope N_grown ["words", "width", "tail"] (defScope st_grown) := ⟨rfl, rfl, rfl, by decide +kernel, rfl, by decide +kernel, by decide +kernel⟩
abbrev st_starts_by : Stmt := topS 25
abbrev N_starts_by : List Str := ["words", "width", "table", "found", "at"]
theorem sc_starts_by : FnScope N_starts_by ["words", "width", "table"] (defScope st_starts_by) := ⟨rfl, rfl, rfl, by decide +kernel, rfl, by decide +kernel, by decide +kernel⟩
abbrev st_is_word : Stmt := topS 27
abbrev N_is_word : List Str := ["text"]
theorem sc_is_word : FnScope N_is_word ["text"] (defScope st_is_word) := ⟨rfl, rfl, rfl, by decide +kernel, rfl, by decide +kernel, by decide +kernel⟩
abbrev st_Page___init__ : Stmt := clsS 30 0
abbrev N_Page___init__ : List Str := ["self", "width"]
theorem sc_Page___init__ : FnScope N_Page___init__ ["self", "width"] (defScope st_Page___init__) := ⟨rfl, rfl, rfl, by decide +kernel, rfl, by decide +kernel, by decide +kernel⟩
abbrev st_Page_keep : Stmt := clsS 30 1
abbrev N_Page_keep : List Str := ["self"]
theorem sc_Page_keep : FnScope N_Page_keep ["self"] (defScope st_Page_keep) := ⟨rfl, rfl, rfl, by decide +kernel, rfl, by decide +kernel, by decide +kernel⟩
abbrev st_Page_put : Stmt := clsS 30 2
abbrev N_Page_put : List Str := ["self", "at", "word", "tail"]
theorem sc_Page_put : FnScope N_Page_put ["self", "at", "word"] (defScope st_Page_put) := ⟨rfl, rfl, rfl, by decide +kernel, rfl, by decide +kernel, by decide +kernel⟩
abbrev st_Page_drop : Stmt := clsS 30 3
abbrev N_Page_drop : List Str := ["self", "at", "word", "tail"]
theorem sc_Page_drop : FnScope N_Page_drop ["self", "at"] (defScope st_Page_drop) := ⟨rfl, rfl, rfl, by decide +kernel, rfl, by decide +kernel, by decide +kernel⟩
abbrev st_Page_widen : Stmt := clsS 30 4
abbrev N_Page_widen : List Str := ["self", "width"]
theorem sc_Page_widen : FnScope N_Page_widen ["self", "width"] (defScope st_Page_widen) := ⟨rfl, rfl, rfl, by decide +kernel, rfl, by decide +kernel, by decide +kernel⟩
abbrev st_Page_undo : Stmt := clsS 30 5
abbrev N_Page_undo : List Str := ["self", "kept"]
theorem sc_Page_undo : FnScope N_Page_undo ["self"] (defScope st_Page_undo) := ⟨rfl, rfl, rfl, by decide +kernel, rfl, by decide +kernel, by decide +kernel⟩
abbrev st_Page_words_now : Stmt := clsS 30 6
abbrev N_Page_words_now : List Str := ["self"]
theorem sc_Page_words_now : FnScope N_Page_words_now ["self"] (defScope st_Page_words_now) := ⟨rfl, rfl, rfl, by decide +kernel, rfl, by decide +kernel, by decide +kernel⟩
abbrev st_Page_width_now : Stmt := clsS 30 7
abbrev N_Page_width_now : List Str := ["self"]
theorem sc_Page_width_now : FnScope N_Page_width_now ["self"] (defScope st_Page_width_now) := ⟨rfl, rfl, rfl, by decide +kernel, rfl, by decide +kernel, by decide +kernel⟩
abbrev st_Page_table_now : Stmt := clsS 30 8
abbrev N_Page_table_now : List Str := ["self"]
theorem sc_Page_table_now : FnScope N_Page_table_now ["self"] (defScope st_Page_table_now) := ⟨rfl, rfl, rfl, by decide +kernel, rfl, by decide +kernel, by decide +kernel⟩
abbrev st_Page_starts_now : Stmt := clsS 30 9
abbrev N_Page_starts_now : List Str := ["self"]
theorem sc_Page_starts_now : FnScope N_Page_starts_now ["self"] (defScope st_Page_starts_now) := ⟨rfl, rfl, rfl, by decide +kernel, rfl, by decide +kernel, by decide +kernel⟩
abbrev st_Page_lines_now : Stmt := clsS 30 10
abbrev N_Page_lines_now : List Str := ["self"]
theorem sc_Page_lines_now : FnScope N_Page_lines_now ["self"] (defScope st_Page_lines_now) := ⟨rfl, rfl, rfl, by decide +kernel, rfl, by decide +kernel, by decide +kernel⟩
abbrev st__law_cell_at : Stmt := topS 32
abbrev N__law_cell_at : List Str := ["_law_script", "_law_k"]
theorem sc__law_cell_at : FnScope N__law_cell_at ["_law_script", "_law_k"] (defScope st__law_cell_at) := ⟨rfl, rfl, rfl, by decide +kernel, rfl, by decide +kernel, by decide +kernel⟩
abbrev st__law_sign_by : Stmt := topS 33
abbrev N__law_sign_by : List Str := ["_law_cell", "_law_some"]
theorem sc__law_sign_by : FnScope N__law_sign_by ["_law_cell"] (defScope st__law_sign_by) := ⟨rfl, rfl, rfl, by decide +kernel, rfl, by decide +kernel, by decide +kernel⟩
abbrev st__law_word_by : Stmt := topS 34
abbrev N__law_word_by : List Str := ["_law_cell", "_law_size", "_law_k"]
theorem sc__law_word_by : FnScope N__law_word_by ["_law_cell"] (defScope st__law_word_by) := ⟨rfl, rfl, rfl, by decide +kernel, rfl, by decide +kernel, by decide +kernel⟩
abbrev st__law_whole : Stmt := topS 35
abbrev N__law_whole : List Str := ["_law_found"]
theorem sc__law_whole : FnScope N__law_whole ["_law_found"] (defScope st__law_whole) := ⟨rfl, rfl, rfl, by decide +kernel, rfl, by decide +kernel, by decide +kernel⟩
abbrev st__law_wholes : Stmt := topS 36
abbrev N__law_wholes : List Str := ["_law_found", "_law_one"]
theorem sc__law_wholes : FnScope N__law_wholes ["_law_found"] (defScope st__law_wholes) := ⟨rfl, rfl, rfl, by decide +kernel, rfl, by decide +kernel, by decide +kernel⟩
abbrev st__law_texts : Stmt := topS 37
abbrev N__law_texts : List Str := ["_law_found", "_law_due_here", "_law_k"]
theorem sc__law_texts : FnScope N__law_texts ["_law_found", "_law_due_here"] (defScope st__law_texts) := ⟨rfl, rfl, rfl, by decide +kernel, rfl, by decide +kernel, by decide +kernel⟩
abbrev st__law_longest : Stmt := topS 38
abbrev N__law_longest : List Str := ["_law_row", "_law_most", "_law_word"]
theorem sc__law_longest : FnScope N__law_longest ["_law_row"] (defScope st__law_longest) := ⟨rfl, rfl, rfl, by decide +kernel, rfl, by decide +kernel, by decide +kernel⟩
abbrev st__law_table_right : Stmt := topS 39
abbrev N__law_table_right : List Str := ["_law_row", "_law_width", "_law_found", "_law_at", "_law_size", "_law_met", "_law_end", "_law_price"]
theorem sc__law_table_right : FnScope N__law_table_right ["_law_row", "_law_width", "_law_found"] (defScope st__law_table_right) := ⟨rfl, rfl, rfl, by decide +kernel, rfl, by decide +kernel, by decide +kernel⟩
abbrev st__law_starts_by_table : Stmt := topS 40
abbrev N__law_starts_by_table : List Str := ["_law_row", "_law_width", "_law_told_here", "_law_found", "_law_at", "_law_size", "_law_goal", "_law_end"]
theorem sc__law_starts_by_table : FnScope N__law_starts_by_table ["_law_row", "_law_width", "_law_told_here"] (defScope st__law_starts_by_table) := ⟨rfl, rfl, rfl, by decide +kernel, rfl, by decide +kernel, by decide +kernel⟩
abbrev st__law_page_width : Stmt := topS 41
abbrev N__law_page_width : List Str := ["_law_cell"]
theorem sc__law_page_width : FnScope N__law_page_width ["_law_cell"] (defScope st__law_page_width) := ⟨rfl, rfl, rfl, by decide +kernel, rfl, by decide +kernel, by decide +kernel⟩
abbrev st__law_page_by : Stmt := topS 42
abbrev N__law_page_by : List Str := ["_law_width", "_law_e"]
theorem sc__law_page_by : FnScope N__law_page_by ["_law_width"] (defScope st__law_page_by) := ⟨rfl, rfl, rfl, by decide +kernel, rfl, by decide +kernel, by decide +kernel⟩
abbrev st__law_kind : Stmt := topS 43
abbrev N__law_kind : List Str := ["_law_e", "_law_flags", "_law_k"]
theorem sc__law_kind : FnScope N__law_kind ["_law_e"] (defScope st__law_kind) := ⟨rfl, rfl, rfl, by decide +kernel, rfl, by decide +kernel, by decide +kernel⟩
abbrev st__law_told : Stmt := topS 44
abbrev N__law_told : List Str := ["_law_page", "_law_deed", "_law_e"]
theorem sc__law_told : FnScope N__law_told ["_law_page", "_law_deed"] (defScope st__law_told) := ⟨rfl, rfl, rfl, by decide +kernel, rfl, by decide +kernel, by decide +kernel⟩
abbrev st__law_due : Stmt := topS 45
abbrev N__law_due : List Str := ["_law_row", "_law_width", "_law_past", "_law_deed"]
theorem sc__law_due : FnScope N__law_due ["_law_row", "_law_width", "_law_past", "_law_deed"] (defScope st__law_due) := ⟨rfl, rfl, rfl, by decide +kernel, rfl, by decide +kernel, by decide +kernel⟩
abbrev st__law_alike_by : Stmt := topS 46
abbrev N__law_alike_by : List Str := ["_law_cell", "_law_size", "_law_at"]
theorem sc__law_alike_by : FnScope N__law_alike_by ["_law_cell", "_law_size"] (defScope st__law_alike_by) := ⟨rfl, rfl, rfl, by decide +kernel, rfl, by decide +kernel, by decide +kernel⟩
abbrev st__law_place_by : Stmt := topS 47
abbrev N__law_place_by : List Str := ["_law_more", "_law_count"]
theorem sc__law_place_by : FnScope N__law_place_by ["_law_more", "_law_count"] (defScope st__law_place_by) := ⟨rfl, rfl, rfl, by decide +kernel, rfl, by decide +kernel, by decide +kernel⟩
abbrev st__law_deed_by : Stmt := topS 48
abbrev N__law_deed_by : List Str := ["_law_cell", "_law_count", "_law_kind_here", "_law_more", "_law_word", "_law_at", "_law_great"]
theorem sc__law_deed_by : FnScope N__law_deed_by ["_law_cell", "_law_count"] (defScope st__law_deed_by) := ⟨rfl, rfl, rfl, by decide +kernel, rfl, by decide +kernel, by decide +kernel⟩
abbrev st__law_one_told : Stmt := topS 49
abbrev N__law_one_told : List Str := ["_law_page", "_law_place"]
theorem sc__law_one_told : FnScope N__law_one_told ["_law_page", "_law_place"] (defScope st__law_one_told) := ⟨rfl, rfl, rfl, by decide +kernel, rfl, by decide +kernel, by decide +kernel⟩
abbrev st__law_all_told : Stmt := topS 50
abbrev N__law_all_told : List Str := ["_law_page", "_law_way", "_law_told_here", "_law_orders", "_law_place"]
theorem sc__law_all_told : FnScope N__law_all_told ["_law_page", "_law_way"] (defScope st__law_all_told) := ⟨rfl, rfl, rfl, by decide +kernel, rfl, by decide +kernel, by decide +kernel⟩
abbrev st__law_shows : Stmt := topS 51
abbrev N__law_shows : List Str := ["_law_row", "_law_width", "_law_told_here", "_law_held", "_law_starts", "_law_ends", "_law_k"]
theorem sc__law_shows : FnScope N__law_shows ["_law_row", "_law_width", "_law_told_here", "_law_held"] (defScope st__law_shows) := ⟨rfl, rfl, rfl, by decide +kernel, rfl, by decide +kernel, by decide +kernel⟩
abbrev st__law_stands : Stmt := topS 52
abbrev N__law_stands : List Str := ["_law_page", "_law_row", "_law_width", "_law_fully", "_law_held", "_law_way", "_law_told_here"]
theorem sc__law_stands : FnScope N__law_stands ["_law_page", "_law_row", "_law_width", "_law_fully", "_law_held", "_law_way"] (defScope st__law_stands) := ⟨rfl, rfl, rfl, by decide +kernel, rfl, by decide +kernel, by decide +kernel⟩
abbrev st__law_deeds_by : Stmt := topS 53
abbrev N__law_deeds_by : List Str := ["_law_cell", "_law_count", "_law_width", "_law_filled", "_law_deed", "_law_k"]
theorem sc__law_deeds_by : FnScope N__law_deeds_by ["_law_cell", "_law_count", "_law_width", "_law_filled"] (defScope st__law_deeds_by) := ⟨rfl, rfl, rfl, by decide +kernel, rfl, by decide +kernel, by decide +kernel⟩
abbrev st__law_answered : Stmt := topS 54
abbrev N__law_answered : List Str := ["_law_found", "_law_row", "_law_deed", "_law_due_here"]
theorem sc__law_answered : FnScope N__law_answered ["_law_found", "_law_row", "_law_deed", "_law_due_here"] (defScope st__law_answered) := ⟨rfl, rfl, rfl, by decide +kernel, rfl, by decide +kernel, by decide +kernel⟩
abbrev st__law_after : Stmt := topS 55
abbrev N__law_after : List Str := ["_law_row", "_law_width", "_law_past", "_law_deed"]
theorem sc__law_after : FnScope N__law_after ["_law_row", "_law_width", "_law_past", "_law_deed"] (defScope st__law_after) := ⟨rfl, rfl, rfl, by decide +kernel, rfl, by decide +kernel, by decide +kernel⟩
abbrev st__law_step : Stmt := topS 56
abbrev N__law_step : List Str := ["_law_page", "_law_now", "_law_deed", "_law_due_here"]
theorem sc__law_step : FnScope N__law_step ["_law_page", "_law_now", "_law_deed"] (defScope st__law_step) := ⟨rfl, rfl, rfl, by decide +kernel, rfl, by decide +kernel, by decide +kernel⟩
abbrev st__law_made_good : Stmt := topS 57
abbrev N__law_made_good : List Str := ["_law_due_here", "_law_deed"]
theorem sc__law_made_good : FnScope N__law_made_good ["_law_due_here", "_law_deed"] (defScope st__law_made_good) := ⟨rfl, rfl, rfl, by decide +kernel, rfl, by decide +kernel, by decide +kernel⟩
abbrev st_law : Stmt := topS 58
abbrev N_law : List Str := ["_law_script", "_law_width", "_law_page", "_law_low", "_law_now", "_law_filled", "_law_held", "_law_cell", "_law_deeds", "_law_deed", "_law_one", "_law_found", "_law_other", "_law_pair"]
theorem sc_law : FnScope N_law ["_law_script"] (defScope st_law) := ⟨rfl, rfl, rfl, by decide +kernel, rfl, by decide +kernel, by decide +kernel⟩
section
variable {P : Program} {w : World} {K : PySem.W.Frag} {mg : Str → Option Value} {base : Heap}
def sp_size_of (K : PySem.W.Frag) : Sp := fun vs H Q _ => ∃ (p : Addr) (ws : List (List Nat)) (a b : Nat), vs = [.ref p, .int a, .int b] ∧ SqL K H p (vts ws) ∧ Bw ws ∧ a ≤ b ∧ b ≤ ws.length ∧
  ∀ H', Same H H' → Q (.int (size ws a b : Nat)) H'
theorem ok_size_of (A : At K mg "size_of" ["words", "begin", "end"] st_size_of) (T : Bts mg) : Ok P w K mg base CX0 1 "size_of" ["words", "begin", "end"] (sp_size_of K) := by
  refine A.ok sc_size_of (fun vs H Q E h => ?_) (fun f cdv A outer s H vs Q E hr h => ?_)
  · obtain ⟨p, ws, a, b, rfl, _⟩ := h; rfl
  · obtain ⟨p, ws, a, b, rfl, hS, hw, hab, hb, q⟩ := h
    refine ⟨_, (pss_cons (ps_set (i := 3) sc_size_of.nd rfl (Or.inl rfl) (pe_callB (call_max2 rfl) (by rfl) T.m_max (by decide +kernel) (pa_cons pe_int (pa_cons (pe_op op_sub (pe_op op_sub (pv 2) (pv 1)) pe_int) pa_nil))))
      (pss_cons (ps_for PassesOwn.never rfl (pi_list (pe_slice (sl_listK K) (pv 0) (po_some (pv 1)) (po_some (pv 2)))) (pg_name (i := 4) sc_size_of.nd rfl (Or.inl rfl))
      (pss_one (ps_set (i := 3) sc_size_of.nd rfl (Or.inl rfl) (pe_op op_add (pv 3) (pe_callB call_len_str (by rfl) T.m_len PySem.boot_len (pa_cons (pv 4) pa_nil))))))
      (pss_one (ps_ret (pv 3))))), ?_⟩
    refine ⟨_, rfl, _, rfl, _, _, rfl, rfl, _, _, rfl, rfl, 0, (b : Int) - a - 1, rfl, ?_⟩
    refine ⟨_, rfl, _, rfl, a, rfl, _, rfl, b, rfl, p, _, rfl, hS, fun c nc => ?_⟩
    have ec : cutV (vts ws) (some (a : Int)) (some (b : Int)) = vts (seg ws a b) := cut_ft vt ws a b
    have s1 := (Same.refl H).new (o := HO.lst (cutV (vts ws) (some (a : Int)) (some (b : Int)))) nc
    have e1 : (upd H c (HO.lst (cutV (vts ws) (some (a : Int)) (some (b : Int))))) c = some (.lst (vts (seg ws a b))) := by rw [upd_same, ec]
    generalize upd H c (HO.lst (cutV (vts ws) (some (a : Int)) (some (b : Int)))) = H1 at s1 e1 ⊢
    have hl := seg_length ws (a := a) hb
    have hm : (if (b : Int) - a - 1 > 0 then (b : Int) - a - 1 else 0) = (((seg ws a b).length - 1 : Nat) : Int) := by
      rw [hl]; split <;> omega
    refine ⟨c, rfl, ⟨_, .of e1⟩, ?_⟩
    refine for_lst (f := vt) (l := seg ws a b) (fun d r σ H3 => H3 = H1 ∧ ∃ y, σ = [some (.ref p), some (.int a), some (.int b), some (.int (((seg ws a b).length - 1 : Nat) + (total d : Nat))), y]) ?_ ?_ ?_ ?_
    · exact ⟨rfl, none, by rw [hm]; simp [total]; rfl⟩
    · rintro d r σ H3 ⟨rfl, _⟩; exact .of e1
    · rintro d x r σ H3 e ⟨rfl, y, rfl⟩
      have hx : x ∈ ws := seg_mem (a := a) (b := b) (by rw [e]; simp)
      refine ⟨_, rfl, _, rfl, tx x, rfl, by rw [tx_len]; exact sz (by have := hw.wl hx; omega), _, _, rfl, rfl, rfl, some (vt x), ?_⟩
      rw [total_app, tx_len]
      have : total [x] = x.length := by simp [total]
      rw [this]
      have e9 : (((seg ws a b).length - 1 : Nat) : Int) + (total d : Nat) + (x.length : Nat) = (((seg ws a b).length - 1 : Nat) : Int) + ((total d + x.length : Nat) : Int) := by omega
      exact congrArg (fun z => [some (V.ref p), some (V.int a), some (V.int b), some (V.int z), some (vt x)]) e9
    · rintro σ H3 ⟨rfl, y, rfl⟩
      refine ⟨_, rfl, ?_⟩
      have e9 : (((seg ws a b).length - 1 : Nat) : Int) + (total (seg ws a b) : Nat) = ((size ws a b : Nat) : Int) := by
        unfold size lsz; omega
      rw [e9]
      exact q _ s1

def sp_need_width (ea : EA) : Sp := fun vs H Q E => ∃ n : Int, vs = [.int n] ∧ (n < 1 → E (.ref ea.nw) none H) ∧ (1 ≤ n → Q .non H)
theorem ok_need_width {ea : EA} (A : At K mg "need_width" ["width"] st_need_width) (T : Bts mg) (X : Xs K mg ea) : Ok P w K mg base (CXn P w) 1 "need_width" ["width"] (sp_need_width ea) := by
  refine A.okX sc_need_width (fun vs H Q E h => ?_) (fun f cdv A outer s H vs Q E hr h => ?_)
  · obtain ⟨n, rfl, _⟩ := h; rfl
  · obtain ⟨n, rfl, e, q⟩ := h
    refine ⟨_, (pss_one (ps_if (pt_cmpR op_lt (pv 0) pe_int (nomark _)) (pss_one (L2N.ps_raise rfl (L2N.takes_of rfl rfl rfl rfl) (X.c_NoWidth.mk_raise (by rfl)))) pss_nil)), ?_⟩
    refine ⟨_, rfl, _, _, rfl, rfl, _, rfl, tst (c := n < 1) rfl (fun h1 => ?_) (fun h1 => ?_)⟩
    · exact e h1
    · exact q (by omega)

def sp_long_word (K : PySem.W.Frag) (ea : EA) : Sp := fun vs H Q E => ∃ (p : Addr) (ws : List (List Nat)) (n : Int), vs = [.ref p, .int n] ∧ SqL K H p (vts ws) ∧ Bw ws ∧
  (n < 1 → E (.ref ea.nw) none H) ∧ (1 ≤ n → Q (vlong ws n) H)
theorem ok_long_word {ea : EA} (A : At K mg "long_word" ["words", "width"] st_long_word) (T : Bts mg) (X : Xs K mg ea)
    (G_need_width : Ok P w K mg base (CXn P w) 1 "need_width" ["width"] (sp_need_width ea)) : Ok P w K mg base (CXn P w) 2 "long_word" ["words", "width"] (sp_long_word K ea) := by
  refine A.okX sc_long_word (fun vs H Q E h => ?_) (fun f cdv A outer s H vs Q E hr h => ?_)
  · obtain ⟨p, ws, n, rfl, _⟩ := h; rfl
  · obtain ⟨p, ws, n, rfl, hS, hw, e, q⟩ := h
    refine ⟨_, (pss_cons (ps_expr (pe_cd G_need_width (hr.mono (by decide)) passR (pa_cons (pv 1) pa_nil)))
      (PSs.nox (pss_cons (ps_for PassesOwn.never rfl (pi_range1 (by rfl) T.m_range (pa_cons (pe_callB (call_lenK K) (by rfl) T.m_len PySem.boot_len (pa_cons (pv 0) pa_nil)) pa_nil)) (pg_name (i := 2) sc_long_word.nd rfl (Or.inl rfl))
      (pss_one (ps_if (pt_cmpR op_gt (pe_callB call_len_str (by rfl) T.m_len PySem.boot_len (pa_cons (pe_ix (ix_listK K) (pv 0) (pv 2) (fun _ _ => rfl)) pa_nil)) (pv 1) (nomark _)) (pss_one (ps_ret (pv 2))) pss_nil)))
      (pss_one (ps_ret pe_non))))), ?_⟩
    refine ⟨_, rfl, n, rfl, e, fun n1 => ?_⟩
    refine ⟨_, rfl, p, _, rfl, .inl hS, ((vts ws).length : Nat), rfl, by omega, by rw [List.length_map]; have := hw.le; omega, ?_⟩
    rw [Int.toNat_natCast]
    refine for_range (n := (vts ws).length) (fun i σ H3 => H3 = H ∧ (∀ j (h : j < i) (h2 : j < ws.length), (ws[j].length : Int) ≤ n) ∧ ∃ y, σ = [some (.ref p), some (.int n), y]) ⟨rfl, (fun j h => by omega), none, rfl⟩ ?_ ?_
    · rintro i σ H3 hi ⟨rfl, hj, y, rfl⟩
      have hi' : i < ws.length := by rw [List.length_map] at hi; exact hi
      have e0 : (0 + (i : Int)) = (i : Int) := by omega
      refine ⟨_, rfl, _, rfl, p, _, _, _, rfl, rfl, hS, at_of e0 (flat_get (List.getElem?_eq_getElem hi')), tx ws[i], rfl, by rw [tx_len]; exact sz (by have := hw.wl (List.getElem_mem hi'); omega), _, rfl, _, _, rfl, rfl, _, rfl, tst (c := n < (ws[i].length : Int)) (by rw [tx_len]) (fun h1 => ?_) (fun h1 => ?_)⟩
      · refine ⟨_, rfl, ?_⟩
        rw [e0, ← vlong_some hi' (fun j h => hj j h (by omega)) h1]
        exact q n1
      · refine ⟨rfl, fun j h h2 => ?_, _, rfl⟩
        by_cases e : j = i
        · subst e; omega
        · exact hj j (by omega) h2
    · rintro σ H3 ⟨rfl, hj, y, rfl⟩
      have e : vlong ws n = .non := vlong_none fun x hx => by
        obtain ⟨i, hi, e⟩ := List.mem_iff_getElem.mp hx
        rw [← e]
        exact hj i (by rw [List.length_map]; exact hi) hi
      have q1 := q n1
      rw [e] at q1
      exact q1

def sp_need_fits (K : PySem.W.Frag) (ea : EA) : Sp := fun vs H Q E => ∃ (p : Addr) (ws : List (List Nat)) (n : Int), vs = [.ref p, .int n] ∧ SqL K H p (vts ws) ∧ Bw ws ∧
  (n < 1 → E (.ref ea.nw) none H) ∧ (1 ≤ n → n < (longest ws : Nat) → E (.ref ea.lw) none H) ∧ (Ft ws n → Q .non H)
theorem ok_need_fits {ea : EA} (A : At K mg "need_fits" ["words", "width"] st_need_fits) (T : Bts mg) (X : Xs K mg ea) (G_long_word : Ok P w K mg base (CXn P w) 2 "long_word" ["words", "width"] (sp_long_word K ea)) :
    Ok P w K mg base (CXn P w) 3 "need_fits" ["words", "width"] (sp_need_fits K ea) := by
  refine A.okX sc_need_fits (fun vs H Q E h => ?_) (fun f cdv A outer s H vs Q E hr h => ?_)
  · obtain ⟨p, ws, n, rfl, _⟩ := h; rfl
  · obtain ⟨p, ws, n, rfl, hS, hw, e1, e2, q⟩ := h
    refine ⟨_, (pss_one (ps_if (pt_cmpR op_notN (pe_cd G_long_word (hr.mono (by decide)) passR (pa_cons (pv 0) (pa_cons (pv 1) pa_nil))) pe_non (nomark _)) (pss_one (L2N.ps_raise rfl (L2N.takes_of rfl rfl rfl rfl) (X.c_LongWord.mk_raise (by rfl)))) pss_nil)), ?_⟩
    refine ⟨_, rfl, _, rfl, p, ws, n, rfl, hS, hw, e1, fun n1 => ?_⟩
    rcases vlong_cases ws n with ⟨ev, hv⟩ | ⟨k, _, ev, w, hw1, hw2⟩
    · rw [ev]
      exact ⟨rfl, _, rfl, iteF (q ⟨n1, hv⟩)⟩
    · rw [ev]
      have := longest_ge hw1
      exact ⟨rfl, _, rfl, iteT (e2 n1 (by omega))⟩

def sp_line_price (K : PySem.W.Frag) : Sp := fun vs H Q _ => ∃ (p : Addr) (ws : List (List Nat)) (n : Int) (a e : Nat), vs = [.ref p, .int n, .int a, .int e] ∧ SqL K H p (vts ws) ∧ Bw ws ∧ Wb n ∧ a ≤ e ∧ e ≤ ws.length ∧
  ∀ H', Same H H' → Q (.int (pr ws n a e)) H'
theorem ok_line_price (A : At K mg "line_price" ["words", "width", "begin", "end"] st_line_price) (T : Bts mg) (G_size_of : Ok P w K mg base CX0 1 "size_of" ["words", "begin", "end"] (sp_size_of K)) :
    Ok P w K mg base CX0 2 "line_price" ["words", "width", "begin", "end"] (sp_line_price K) := by
  refine A.ok sc_line_price (fun vs H Q E h => ?_) (fun f cdv A outer s H vs Q E hr h => ?_)
  · obtain ⟨p, ws, n, a, e, rfl, _⟩ := h; rfl
  · obtain ⟨p, ws, n, a, e, rfl, hS, hw, hn, hae, he, q⟩ := h
    refine ⟨_, (pss_cons (ps_if (pt_cmpR op_eq (pv 3) (pe_callB (call_lenK K) (by rfl) T.m_len PySem.boot_len (pa_cons (pv 0) pa_nil)) (nomark _)) (pss_one (ps_ret pe_int)) pss_nil)
      (pss_cons (ps_set (i := 4) sc_line_price.nd rfl (Or.inl rfl) (pe_op op_sub (pv 1) (pe_cd G_size_of (hr.mono (by decide)) pass0 (pa_cons (pv 0) (pa_cons (pv 2) (pa_cons (pv 3) pa_nil))))))
      (pss_one (ps_ret (pe_op op_mulW (pv 4) (pv 4)))))), ?_⟩
    refine ⟨_, rfl, _, rfl, p, _, rfl, .inl hS, rfl, _, rfl, tst (c := e = ws.length) (by rw [dec_vi, List.length_map]; simp only [decide_eq_decide]; omega) (fun h1 => ?_) (fun h1 => ?_)⟩
    · have := q H (Same.refl H)
      rw [pr_last h1] at this; exact this
    · have hs := hw.size a e
      refine ⟨_, rfl, _, rfl, _, rfl, _, rfl, p, ws, a, e, rfl, hS, hw, hae, he, fun H' s' => ?_⟩
      refine ⟨_, _, rfl, rfl, _, rfl, _, rfl, _, _, rfl, rfl, hn.mul (by omega), ?_⟩
      have := q H' s'
      rw [pr_gap h1] at this; exact this

def sp_are_starts (K : PySem.W.Frag) : Sp := fun vs H Q _ => ∃ (p q : Addr) (ws : List (List Nat)) (ss : List Int), vs = [.ref p, .ref q] ∧ SqL K H p (vts ws) ∧ SqL K H q (vis ss) ∧ Bw ws ∧ ss.length ≤ 1000000 ∧
  ∀ H' b, Same H H' → (b = true ↔ good ss ws.length) → Q (.bl b) H'
theorem ok_are_starts (A : At K mg "are_starts" ["words", "starts"] st_are_starts) (T : Bts mg) : Ok P w K mg base CX0 1 "are_starts" ["words", "starts"] (sp_are_starts K) := by
  refine A.ok sc_are_starts (fun vs H Q E h => ?_) (fun f cdv A outer s H vs Q E hr h => ?_)
  · obtain ⟨p, q, ws, ss, rfl, _⟩ := h; rfl
  · obtain ⟨p, q, ws, ss, rfl, hS, hT, hw, hle, k⟩ := h
    refine ⟨_, (pss_cons (ps_if (pt_cmpR (op_eqL hr) (pv 1) (pe_lst pa_nil) (nomark _)) (pss_one (ps_ret (pe_cmpR (op_eqL hr) (pv 0) (pe_lst pa_nil) (nomark _)))) pss_nil)
      (pss_cons (ps_if (PW.pt (pw_or (pt_cmpR op_ne (pe_ix (ix_listK K) (pv 1) pe_int (fun _ _ => rfl)) pe_int (nomark _)) (pw_or1 (pt_cmpR op_ge (pe_ix (ix_listK K) (pv 1) (pe_un un_neg pe_int) (fun _ _ => rfl)) (pe_callB (call_lenK K) (by rfl) T.m_len PySem.boot_len (pa_cons (pv 0) pa_nil)) (nomark _))))) (pss_one (ps_ret pe_bl)) pss_nil)
      (pss_cons (ps_for PassesOwn.never rfl (pi_range2 (by rfl) T.m_range (pa_cons pe_int (pa_cons (pe_callB (call_lenK K) (by rfl) T.m_len PySem.boot_len (pa_cons (pv 1) pa_nil)) pa_nil))) (pg_name (i := 2) sc_are_starts.nd rfl (Or.inl rfl))
      (pss_one (ps_if (pt_cmpR op_ge (pe_ix (ix_listK K) (pv 1) (pe_op op_sub (pv 2) pe_int) (fun _ _ => rfl)) (pe_ix (ix_listK K) (pv 1) (pv 2) (fun _ _ => rfl)) (nomark _)) (pss_one (ps_ret pe_bl)) pss_nil)))
      (pss_one (ps_ret pe_bl))))), ?_⟩
    refine ⟨_, rfl, sz (by simp), fun d nd => ?_⟩
    have s1 := (Same.refl H).new (o := HO.lst []) nd
    have ed : (upd H d (HO.lst [])) d = some (.lst []) := upd_same
    generalize upd H d (HO.lst []) = H1 at s1 ed ⊢
    refine ⟨q, d, _, _, rfl, rfl, s1.seq hT, .of ed, flat_vis ss, rfl, _, rfl, tst (c := ss = []) (by simp only [decide_eq_decide]; exact List.map_eq_nil_iff) (fun h1 => ?_) (fun h1 => ?_)⟩
    · subst h1
      refine ⟨_, rfl, sz (by simp), fun d2 nd2 => ?_⟩
      have s2 := s1.new (o := HO.lst []) nd2
      have ed2 : (upd H1 d2 (HO.lst [])) d2 = some (.lst []) := upd_same
      generalize upd H1 d2 (HO.lst []) = H2 at s2 ed2 ⊢
      refine ⟨p, d2, _, _, rfl, rfl, s2.seq hS, .of ed2, hw.flat, rfl, k _ _ s2 ?_⟩
      rw [good_nil, decide_eq_true_iff, List.map_eq_nil_iff, List.length_eq_zero_iff]
    have hT1 := s1.seq hT
    have hl : 0 < ss.length := List.length_pos_iff.mpr h1
    have h0 : (vis ss)[0]? = some (V.int (ss.head h1)) := by
      rw [List.getElem?_map, List.head_eq_getElem, List.getElem?_eq_getElem hl]; rfl
    have gc := good_cons ss h1 ws.length
    refine ⟨_, rfl, q, _, _, _, rfl, rfl, hT1, atI_nat (j := 0) h0, rfl, _, rfl, tsn (c := ss.head h1 = 0) (by rw [dec_vi]) (fun h2 => ?_) (fun h2 => ?_)⟩
    · exact k _ _ s1 ⟨fun z => (nomatch z), fun z => absurd (gc.mp z).1 h2⟩
    refine ⟨_, rfl, _, rfl, q, _, _, _, rfl, rfl, hT1, vis_last h1, _, rfl, p, _, rfl, .inl (s1.seq hS), _, _, rfl, rfl, _, rfl, tst (c := (ws.length : Int) ≤ ss.getLast h1) (by rw [List.length_map]) (fun h3 => ?_) (fun h3 => ?_)⟩
    · exact k _ _ s1 ⟨fun z => (nomatch z), fun z => by have := (gc.mp z).2.1; omega⟩
    have hlen : (((vis ss).length : Nat) : Int) = (ss.length : Nat) := by rw [List.length_map]
    refine ⟨_, rfl, q, _, rfl, .inl hT1, 1, (ss.length : Nat), by rw [hlen], ?_, ?_⟩
    · refine ⟨by decide, by decide, by omega, by omega⟩
    refine for_range (n := ((ss.length : Int) - 1).toNat) (fun i σ H3 => H3 = H1 ∧ (∃ z, σ = [some (.ref p), some (.ref q), z]) ∧ ∀ k (h : k + 1 < ss.length), k < i → ss[k] < ss[k + 1]) ?_ ?_ ?_
    · exact ⟨rfl, ⟨_, rfl⟩, fun _ _ z => absurd z (Nat.not_lt_zero _)⟩
    · rintro i σ H3 hi ⟨rfl, ⟨z, rfl⟩, a⟩
      have hi1 : i + 1 < ss.length := by omega
      have e0 : (1 + (i : Int)) - 1 = (i : Int) := by omega
      have e1 : (1 + (i : Int)) = ((i + 1 : Nat) : Int) := by omega
      have g0 : (vis ss)[i]? = some (V.int ss[i]) := flat_get (List.getElem?_eq_getElem (by omega))
      have g1 : (vis ss)[i + 1]? = some (V.int ss[i + 1]) := flat_get (List.getElem?_eq_getElem hi1)
      refine ⟨_, rfl, _, rfl, _, _, rfl, rfl, q, _, _, _, rfl, rfl, hT1, at_of e0 g0, _, rfl, _, rfl, q, _, _, _, rfl, rfl, hT1, at_of e1 g1, _, _, rfl, rfl, _, rfl, tst (c := ss[i + 1] ≤ ss[i]) rfl (fun h4 => ?_) (fun h4 => ?_)⟩
      · exact k _ _ s1 ⟨fun z => (nomatch z), fun z => by have := (gc.mp z).2.2 i hi1; omega⟩
      · refine ⟨rfl, ⟨_, rfl⟩, fun k hk hki => ?_⟩
        rcases Nat.lt_or_ge k i with h | h
        · exact a k hk h
        · have : k = i := by omega
          subst this; omega
    · rintro σ H3 ⟨rfl, ⟨z, rfl⟩, a⟩
      refine k _ _ s1 ⟨fun _ => gc.mpr ⟨h2, by omega, fun k h => a k h (by omega)⟩, fun _ => rfl⟩

/-- refs to pairs of begin and end -/
def Spans (H : Hp) (ts : List Addr) (ps : List (Nat × Nat)) : Prop := ts.length = ps.length ∧ ∀ (k : Nat) (t : Addr) (p : Nat × Nat), ts[k]? = some t → ps[k]? = some p → H t = some (.tup [.int (p.1 : Nat), .int (p.2 : Nat)])
theorem Spans.same {H H' : Hp} {ts : List Addr} {ps : List (Nat × Nat)} (h : Spans H ts ps) (s : Same H H') : Spans H' ts ps := ⟨h.1, fun k t p h1 h2 => s _ _ (h.2 k t p h1 h2)⟩
def sp_spans_of (K : PySem.W.Frag) (ea : EA) : Sp := fun vs H Q E => ∃ (p q : Addr) (ws : List (List Nat)) (ss : List Int), vs = [.ref p, .ref q] ∧ SqL K H p (vts ws) ∧ SqL K H q (vis ss) ∧ Bw ws ∧ ss.length ≤ 1000000 ∧
  (¬ good ss ws.length → ∀ H', Same H H' → E (.ref ea.ns) none H') ∧
  (∀ ks H' o ts, ss = toI ks → Ch ws.length 0 ks → Same H H' → H o = none → H' o = some (.lst (ts.map V.ref)) → Spans H' ts (pairs ws.length ks) → Q (.ref o) H')
theorem ok_spans_of {ea : EA} (A : At K mg "spans_of" ["words", "starts"] st_spans_of) (T : Bts mg) (X : Xs K mg ea) (G_are_starts : Ok P w K mg base CX0 1 "are_starts" ["words", "starts"] (sp_are_starts K)) :
    Ok P w K mg base (CXn P w) 2 "spans_of" ["words", "starts"] (sp_spans_of K ea) := by
  refine A.okX sc_spans_of (fun vs H Q E h => ?_) (fun f cdv A outer s H vs Q E hr h => ?_)
  · obtain ⟨p, q, ws, ss, rfl, _⟩ := h; rfl
  · obtain ⟨p, q, ws, ss, rfl, hS, hT, hw, hle, e, k⟩ := h
    refine ⟨_, (pss_cons (ps_if (pt_not (pt_val (pe_cd G_are_starts (hr.mono (by decide)) pass0 (pa_cons (pv 0) (pa_cons (pv 1) pa_nil))))) (pss_one (L2N.ps_raise rfl (L2N.takes_of rfl rfl rfl rfl) (X.c_NoStarts.mk_raise (by rfl)))) pss_nil)
      (PSs.nox (pss_cons (ps_set (i := 2) sc_spans_of.nd rfl (Or.inr rfl) (pe_op op_cat (pe_slice (sl_listK K) (pv 1) (po_some pe_int) po_none) (pe_lst (pa_cons (pe_callB (call_lenK K) (by rfl) T.m_len PySem.boot_len (pa_cons (pv 0) pa_nil)) pa_nil))))
      (pss_one (ps_ret (pe_lc (own := [("k", 3)]) (g := gName 3) (tt := tYes) rfl sc_spans_of.nd (pi_range1 (by rfl) T.m_range (pa_cons (pe_callB (call_lenK K) (by rfl) T.m_len PySem.boot_len (pa_cons (pv 1) pa_nil)) pa_nil)) (blkOk_by (own := [("k", 3)]) (N := N_spans_of) (sc := defScope st_spans_of) (by decide +kernel)) (fun _ _ _ _ _ => pg_name (i := 3) sc_spans_of.nd rfl (Or.inl rfl)) (fun _ _ _ _ _ => pts_nil) (fun _ _ _ _ _ => (pe_tup (pa_cons (pe_ix (ix_listK K) (pv 1) (pv 3) (fun _ _ => rfl)) (pa_cons (pe_ix (ix_listK K) (pv 2) (pv 3) (fun _ _ => rfl)) pa_nil)))))))))), ?_⟩
    refine ⟨_, rfl, _, rfl, p, q, ws, ss, rfl, hS, hT, hw, hle, fun H1 b s1 hb => ⟨_, rfl, ?_⟩⟩
    cases b with
    | false => exact iteT (e (fun z => by have := hb.mpr z; cases this) H1 s1)
    | true =>
    refine iteF ?_
    obtain ⟨ks, rfl, hc⟩ := hb.mp rfl
    have hS1 := s1.seq hS
    have hT1 := s1.seq hT
    refine ⟨_, rfl, 1, rfl, q, _, rfl, hT1, fun c nc => ?_⟩
    have s2 := s1.new (o := HO.lst (cutV (vis (toI ks)) (some 1) none)) nc
    have ec : (upd H1 c (HO.lst (cutV (vis (toI ks)) (some 1) none))) c = some (.lst (vis ((toI ks).drop 1))) := by
      rw [upd_same]; exact congrArg some (congrArg HO.lst (cut_from V.int (toI ks) 1))
    generalize upd H1 c (HO.lst (cutV (vis (toI ks)) (some 1) none)) = H2 at s2 ec ⊢
    refine ⟨_, rfl, p, _, rfl, .inl (s2.seq hS), sz (by simp), fun d nd => ?_⟩
    have s3 := s2.new (o := HO.lst [V.int ((vts ws).length : Nat)]) nd
    have ed : (upd H2 d (HO.lst [V.int ((vts ws).length : Nat)])) d = some (.lst [V.int ((vts ws).length : Nat)]) := upd_same
    have ec3 := kept ec nd (o := HO.lst [V.int ((vts ws).length : Nat)])
    generalize upd H2 d (HO.lst [V.int ((vts ws).length : Nat)]) = H3 at s3 ed ec3 ⊢
    refine ⟨c, d, _, _, rfl, rfl, ec3, ed, sz (by rw [List.length_map, List.length_drop, toI_length]; have := hc.len; rw [toI_length] at hle; simp; omega), fun g ng => ?_⟩
    have eg : vis ((toI ks).drop 1) ++ [V.int ((vts ws).length : Nat)] = vis (toI (ks.drop 1 ++ [ws.length])) := by rw [List.length_map]; exact ends_vis ks ws.length
    rw [eg]
    have s4 := s3.new (o := HO.lst (vis (toI (ks.drop 1 ++ [ws.length])))) ng
    have eg4 : (upd H3 g (HO.lst (vis (toI (ks.drop 1 ++ [ws.length]))))) g = some (.lst (vis (toI (ks.drop 1 ++ [ws.length])))) := upd_same
    generalize upd H3 g (HO.lst (vis (toI (ks.drop 1 ++ [ws.length])))) = H4 at s4 eg4 ⊢
    rw [toI_length] at hle
    refine ⟨_, rfl, q, _, rfl, .inl (s4.seq hT), ks.length, by rw [List.length_map, toI_length], by omega, by omega, fun D hD => ?_⟩
    refine lc_range (lo := 0) (n := ks.length) (fun i H' => Same H4 H' ∧ ∃ ts : List Addr, H' D = some (.lst (ts.map V.ref)) ∧ ts.length = i ∧ ∀ (k : Nat) (t : Addr) (p : Nat × Nat), ts[k]? = some t → (pairs ws.length ks)[k]? = some p → H' t = some (.tup [.int (p.1 : Nat), .int (p.2 : Nat)])) ?_ ?_ ?_
    · exact ⟨(Same.refl _).new hD, [], upd_same, rfl, fun k t p z => by simp at z⟩
    · rintro i H' hi ⟨s5, ts, eD, e1, e2⟩
      refine ⟨rfl, ?_⟩
      have e0 : (0 + (i : Int)) = (i : Int) := by omega
      have hp : i < (pairs ws.length ks).length := by rw [pairs_length]; exact hi
      obtain ⟨pp, hpp⟩ : ∃ pp, (pairs ws.length ks)[i]? = some pp := ⟨_, List.getElem?_eq_getElem hp⟩
      obtain ⟨g1, g2⟩ := pairs_get hpp
      have f1 : (vis (toI ks))[i]? = some (V.int (pp.1 : Nat)) := flat_get (toI_get g1)
      have f2 : (vis (toI (ks.drop 1 ++ [ws.length])))[i]? = some (V.int (pp.2 : Nat)) := flat_get (toI_get g2)
      refine ⟨_, rfl, _, rfl, q, _, _, _, rfl, rfl, s5.seq (s4.seq hT), at_of e0 f1, _, rfl, _, rfl, g, _, _, _, rfl, rfl, .of (s5 _ _ eg4), at_of e0 f2, sz (by simp), fun t nt => ?_⟩
      have st := s5.new (o := HO.tup [V.int (pp.1 : Nat), V.int (pp.2 : Nat)]) nt
      have et : (upd H' t (HO.tup [V.int (pp.1 : Nat), V.int (pp.2 : Nat)])) t = some (.tup [V.int (pp.1 : Nat), V.int (pp.2 : Nat)]) := upd_same
      have eD' := kept eD nt (o := HO.tup [V.int (pp.1 : Nat), V.int (pp.2 : Nat)])
      have e2' : ∀ (k : Nat) (t' : Addr) (p : Nat × Nat), ts[k]? = some t' → (pairs ws.length ks)[k]? = some p → (upd H' t (HO.tup [V.int (pp.1 : Nat), V.int (pp.2 : Nat)])) t' = some (.tup [.int (p.1 : Nat), .int (p.2 : Nat)]) := fun k t' p h1 h2 => kept (e2 k t' p h1 h2) nt
      generalize upd H' t (HO.tup [V.int (pp.1 : Nat), V.int (pp.2 : Nat)]) = H6 at st et eD' e2' ⊢
      refine ⟨_, eD', by rw [List.length_map]; exact szl (by omega), st.put hD, ts ++ [t], by rw [upd_same, List.map_append]; rfl, by simp [e1], fun k t' p h1 h2 => ?_⟩
      have hne : ∀ z, H6 z = some (.tup [V.int (p.1 : Nat), V.int (p.2 : Nat)]) → z ≠ D := fun z hz e => by subst e; rw [eD'] at hz; cases hz
      rcases Nat.lt_or_ge k ts.length with h | h
      · rw [List.getElem?_append_left h] at h1
        have := e2' k t' p h1 h2
        rw [upd_ne (hne _ this)]; exact this
      · rw [List.getElem?_append_right h] at h1
        have hk : k = i := by
          have := (List.getElem?_eq_some_iff.mp h1).1
          simp at this; omega
        subst hk
        rw [e1, Nat.sub_self] at h1
        cases h1
        rw [hpp] at h2
        cases h2
        rw [upd_ne (hne _ et)]; exact et
    · rintro H' ⟨s5, ts, eD, e1, e2⟩
      exact k ks H' D ts rfl hc (s4.trans s5) (s4.free hD) eD ⟨by rw [e1, pairs_length], e2⟩

def sp_lines_of (K : PySem.W.Frag) (ea : EA) : Sp := fun vs H Q E => ∃ (p q : Addr) (ws : List (List Nat)) (ss : List Int), vs = [.ref p, .ref q] ∧ SqL K H p (vts ws) ∧ SqL K H q (vis ss) ∧ Bw ws ∧ ss.length ≤ 1000000 ∧
  (¬ good ss ws.length → ∀ H', Same H H' → E (.ref ea.ns) none H') ∧
  (∀ ks H' o, ss = toI ks → Ch ws.length 0 ks → Same H H' → H o = none → H' o = some (.lst (vts (lns ws ks))) → Q (.ref o) H')
theorem ok_lines_of {ea : EA} (A : At K mg "lines_of" ["words", "starts"] st_lines_of) (T : Bts mg) (X : Xs K mg ea) (G_spans_of : Ok P w K mg base (CXn P w) 2 "spans_of" ["words", "starts"] (sp_spans_of K ea)) :
    Ok P w K mg base (CXn P w) 3 "lines_of" ["words", "starts"] (sp_lines_of K ea) := by
  refine A.okX sc_lines_of (fun vs H Q E h => ?_) (fun f cdv A outer s H vs Q E hr h => ?_)
  · obtain ⟨p, q, ws, ss, rfl, _⟩ := h; rfl
  · obtain ⟨p, q, ws, ss, rfl, hS, hT, hw, hle, e, k⟩ := h
    refine ⟨_, (pss_one (ps_ret (pe_lc (own := [("span", 2)]) (g := gName 2) (tt := tYes) rfl sc_lines_of.nd (pi_list (pe_cd G_spans_of (hr.mono (by decide)) passR (pa_cons (pv 0) (pa_cons (pv 1) pa_nil)))) (blkOk_by (own := [("span", 2)]) (N := N_lines_of) (sc := defScope st_lines_of) (by decide +kernel)) (fun _ _ _ _ _ => pg_name (i := 2) sc_lines_of.nd rfl (Or.inl rfl)) (fun _ _ _ _ _ => pts_nil) (fun _ _ _ _ _ => (pe_joinK K pe_str (pe_slice (sl_listK K) (pv 0) (po_some (pe_ix (ix_tupK K) (pv 2) pe_int (fun _ _ => rfl))) (po_some (pe_ix (ix_tupK K) (pv 2) pe_int (fun _ _ => rfl))))))))), ?_⟩
    refine ⟨_, rfl, _, rfl, p, q, ws, ss, rfl, hS, hT, hw, hle, e, fun ks H1 o ts es hc s1 no eo hs => ?_⟩
    subst es
    rw [toI_length] at hle
    refine ⟨o, rfl, ⟨_, .of eo⟩, fun D hD => ?_⟩
    have hl := hs.1
    have hln := pairs_length ws.length ks
    refine lc_list (xs := ts.map V.ref) (fun i H' => Same H1 H' ∧ H' D = some (.lst (vts ((lns ws ks).take i)))) ?_ ?_ ?_ ?_
    · exact ⟨(Same.refl _).new hD, upd_same⟩
    · rintro i H' _ ⟨s2, _⟩; exact .of (s2 _ _ eo)
    · rintro i x H' hx ⟨s2, eD⟩
      have hi : i < ts.length := by have := (List.getElem?_eq_some_iff.mp hx).1; simpa using this
      rw [flat_get (List.getElem?_eq_getElem hi)] at hx
      cases hx
      obtain ⟨pp, hpp⟩ : ∃ pp, (pairs ws.length ks)[i]? = some pp := ⟨_, List.getElem?_eq_getElem (by omega)⟩
      have et := s2 _ _ (hs.2 i _ pp (List.getElem?_eq_getElem hi) hpp)
      have hln2 : (lns ws ks)[i]? = some (jn [32] (seg ws pp.1 pp.2)) := by unfold lns; rw [List.getElem?_map, hpp]; rfl
      refine ⟨rfl, ?_⟩
      refine ⟨⟨_, rfl⟩, _, rfl, _, rfl, _, _, _, _, rfl, rfl, .of et, atI_nat (j := 0) rfl, pp.1, rfl, _, rfl, _, _, _, _, rfl, rfl, .of et, atI_nat (j := 1) rfl, pp.2, rfl, p, _, rfl, (s1.trans s2).seq hS, fun c nc => ?_⟩
      have ec : cutV (vts ws) (some (pp.1 : Int)) (some (pp.2 : Int)) = vts (seg ws pp.1 pp.2) := cut_ft vt ws pp.1 pp.2
      have t1 := total_seg ws pp.1 pp.2
      have t2 := seg_le ws pp.1 pp.2
      have t3 := hw.tot
      have t4 := hw.le
      have s3 := s2.new (o := HO.lst (cutV (vts ws) (some (pp.1 : Int)) (some (pp.2 : Int)))) nc
      have eD3 := kept eD nc (o := HO.lst (cutV (vts ws) (some (pp.1 : Int)) (some (pp.2 : Int))))
      refine ⟨_, c, (seg ws pp.1 pp.2).map tx, rfl, rfl, .inl (.of (by rw [upd_same, ec, map_vt])), ?_, ?_⟩
      · rw [sum_tx, lit_sp, tx_len, List.length_map]
        simp only [List.length_cons, List.length_nil]
        omega
      · rw [lit_sp, join_tx]
        refine ⟨_, eD3, by rw [List.length_map, List.length_take, lns_length]; exact szl (by omega), s3.put hD, ?_⟩
        rw [upd_same, List.take_add_one, hln2, Option.toList_some, vts_app]
    · rintro H2 ⟨s2, eD⟩
      rw [List.length_map] at eD
      have : (lns ws ks).take ts.length = lns ws ks := List.take_of_length_le (by rw [lns_length]; omega)
      rw [this] at eD
      exact k ks H2 D rfl hc (s1.trans s2) (s1.free hD) eD

def tb (xs : List Int) (e : Nat) : Int := xs.getD e 0
theorem tb_get {xs : List Int} {e : Nat} (h : e < xs.length) : (vis xs)[e]? = some (V.int (tb xs e)) := by
  unfold tb
  rw [List.getD_eq_getElem?_getD, List.getElem?_eq_getElem h]
  exact flat_get (List.getElem?_eq_getElem h)
def sp_best_end (K : PySem.W.Frag) : Sp := fun vs H Q _ => ∃ (p t : Addr) (ws : List (List Nat)) (n : Int) (xs : List Int) (a : Nat), vs = [.ref p, .int n, .ref t, .int a] ∧ SqL K H p (vts ws) ∧ SqL K H t (vis xs) ∧ Bw ws ∧ Wb n ∧ Ft ws n ∧ xs.length = ws.length + 1 ∧ a < ws.length ∧
  ∀ H' e, Same H H' → Best ws n (tb xs) a e → Q (.int (e : Nat)) H'
theorem ok_best_end (A : At K mg "best_end" ["words", "width", "table", "at"] st_best_end) (T : Bts mg) (G_line_price : Ok P w K mg base CX0 2 "line_price" ["words", "width", "begin", "end"] (sp_line_price K)) :
    Ok P w K mg base CX0 3 "best_end" ["words", "width", "table", "at"] (sp_best_end K) := by
  refine A.ok sc_best_end (fun vs H Q E h => ?_) (fun f cdv A outer s H vs Q E hr h => ?_)
  · obtain ⟨p, t, ws, n, xs, a, rfl, _⟩ := h; rfl
  · obtain ⟨p, t, ws, n, xs, a, rfl, hS, hT, hw, hn, ft, hl, ha, q⟩ := h
    refine ⟨_, (pss_cons (ps_set (i := 4) sc_best_end.nd rfl (Or.inl rfl) (pe_op op_add (pv 3) pe_int))
      (pss_cons (ps_set (i := 5) sc_best_end.nd rfl (Or.inl rfl) (pe_op op_add (pe_cd G_line_price (hr.mono (by decide)) pass0 (pa_cons (pv 0) (pa_cons (pv 1) (pa_cons (pv 3) (pa_cons (pv 4) pa_nil))))) (pe_ix (ix_listK K) (pv 2) (pv 4) (fun _ _ => rfl))))
      (pss_cons (ps_set (i := 6) sc_best_end.nd rfl (Or.inl rfl) (pe_callB call_len_str (by rfl) T.m_len PySem.boot_len (pa_cons (pe_ix (ix_listK K) (pv 0) (pv 3) (fun _ _ => rfl)) pa_nil)))
      (pss_cons (ps_for PassesOwn.never rfl (pi_range2 (by rfl) T.m_range (pa_cons (pe_op op_add (pv 3) pe_int) (pa_cons (pe_op op_add (pe_callB (call_lenK K) (by rfl) T.m_len PySem.boot_len (pa_cons (pv 0) pa_nil)) pe_int) pa_nil))) (pg_name (i := 7) sc_best_end.nd rfl (Or.inl rfl))
      (pss_cons (ps_set (i := 6) sc_best_end.nd rfl (Or.inl rfl) (pe_op op_add (pe_op op_add (pv 6) pe_int) (pe_callB call_len_str (by rfl) T.m_len PySem.boot_len (pa_cons (pe_ix (ix_listK K) (pv 0) (pe_op op_sub (pv 7) pe_int) (fun _ _ => rfl)) pa_nil))))
      (pss_cons (ps_if (pt_cmpR op_gt (pv 6) (pv 1) (nomark _)) (pss_one (ps_ret (pv 4))) pss_nil)
      (pss_cons (ps_set (i := 8) sc_best_end.nd rfl (Or.inl rfl) (pe_ix (ix_listK K) (pv 2) (pv 7) (fun _ _ => rfl)))
      (C8.pss_cut (ps_if (pt_cmpR op_lt (pv 7) (pe_callB (call_lenK K) (by rfl) T.m_len PySem.boot_len (pa_cons (pv 0) pa_nil)) (nomark _)) (pss_one (ps_set (i := 8) sc_best_end.nd rfl (Or.inl rfl) (pe_op op_add (pv 8) (pe_op op_mulW (pe_op op_sub (pv 1) (pv 6)) (pe_op op_sub (pv 1) (pv 6)))))) pss_nil)
      (pss_one (ps_if (pt_cmpR op_le (pv 8) (pv 5) (nomark _)) (pss_cons (ps_set (i := 4) sc_best_end.nd rfl (Or.inl rfl) (pv 7))
      (pss_one (ps_set (i := 5) sc_best_end.nd rfl (Or.inl rfl) (pv 8)))) pss_nil)))))))
      (pss_one (ps_ret (pv 4))))))), ?_⟩
    have hle := hw.le
    have one := ft.one ha
    have g1 := tb_get (xs := xs) (e := a + 1) (by omega)
    refine ⟨_, rfl, _, _, rfl, rfl, ?_⟩
    refine ⟨_, rfl, _, rfl, _, rfl, _, rfl, p, ws, n, a, a + 1, rfl, hS, hw, hn, by omega, by omega, fun H1 s1 => ?_⟩
    have hS1 := s1.seq hS
    have hT1 := s1.seq hT
    have ga : (vts ws)[a]? = some (vt ws[a]) := flat_get (List.getElem?_eq_getElem ha)
    refine ⟨_, rfl, _, rfl, t, _, _, _, rfl, rfl, hT1, at_of (show (a : Int) + 1 = ((a + 1 : Nat) : Int) from rfl) g1, _, _, rfl, rfl, ?_⟩
    refine ⟨_, rfl, _, rfl, p, _, _, _, rfl, rfl, hS1, at_of rfl ga, tx ws[a], rfl, by rw [tx_len]; exact sz (by have := hw.wl (List.getElem_mem ha); omega), ?_⟩
    rw [tx_len]
    refine ⟨_, rfl, _, _, rfl, rfl, _, rfl, p, _, rfl, .inl hS1, _, _, rfl, rfl, _, _, rfl, ⟨by omega, by omega, by rw [List.length_map]; omega, by rw [List.length_map]; omega⟩, ?_⟩
    refine for_range (n := (((vts ws).length : Int) + 1 - ((a : Int) + 2)).toNat) (fun i σ H' => H' = H1 ∧ ∃ (f : Nat) (y z : Option V), σ = [some (.ref p), some (.int n), some (.ref t), some (.int a), some (.int (f : Nat)), some (.int (pr ws n a f + tb xs f)), some (.int (size ws a (a + 1 + i) : Nat)), y, z] ∧
      a < f ∧ f ≤ a + 1 + i ∧ a + 1 + i ≤ ws.length ∧ ((size ws a (a + 1 + i) : Nat) : Int) ≤ n ∧
      ∀ e', a < e' → e' ≤ a + 1 + i → pr ws n a f + tb xs f ≤ pr ws n a e' + tb xs e' ∧ (pr ws n a f + tb xs f = pr ws n a e' + tb xs e' → e' ≤ f)) ?_ ?_ ?_
    · refine ⟨rfl, a + 1, none, none, by rw [Nat.add_zero, size_one ws ha]; rfl, by omega, by omega, by omega, one, fun e' h1 h2 => ?_⟩
      have : e' = a + 1 := by omega
      subst this
      exact ⟨Int.le_refl _, fun _ => Nat.le_refl _⟩
    · rintro i σ H' hi ⟨rfl, f, y, z, rfl, f1, f2, f3, f4, f5⟩
      rw [List.length_map] at hi
      have hc : a + 1 + i < ws.length := by omega
      have gc : (vts ws)[a + 1 + i]? = some (vt ws[a + 1 + i]) := flat_get (List.getElem?_eq_getElem hc)
      have e0 : ((a : Int) + 2 + (i : Int)) - 1 = ((a + 1 + i : Nat) : Int) := by omega
      have e1 : (a : Int) + 2 + (i : Int) = ((a + 1 + i + 1 : Nat) : Int) := by omega
      have gt := tb_get (xs := xs) (e := a + 1 + i + 1) (by omega)
      have es : ((size ws a (a + 1 + i) : Nat) : Int) + 1 + (ws[a + 1 + i].length : Nat) = ((size ws a (a + 1 + (i + 1)) : Nat) : Int) := by
        have := size_snoc ws (show a < a + 1 + i by omega) hc
        rw [show a + 1 + (i + 1) = a + 1 + i + 1 by omega, this]; omega
      refine ⟨_, rfl, _, _, rfl, rfl, _, rfl, _, rfl, _, _, rfl, rfl, p, _, _, _, rfl, rfl, hS1, at_of e0 gc, tx ws[a + 1 + i], rfl, by rw [tx_len]; exact sz (by have := hw.wl (List.getElem_mem hc); omega), ?_⟩
      rw [tx_len]
      refine rI0_at (v := .int (size ws a (a + 1 + (i + 1)) : Nat)) (congrArg V.int es) ?_
      refine ⟨_, rfl, _, rfl, _, _, rfl, rfl, _, rfl, tst (c := n < (size ws a (a + 1 + (i + 1)) : Nat)) rfl (fun h1 => ?_) (fun h1 => ?_)⟩
      · refine ⟨_, rfl, q _ f s1 ⟨f1, by omega, ?_, fun e' g1 g2 g3 => f5 e' g1 ?_⟩⟩
        · have := size_mono (ws := ws) (Nat.le_refl a) f1 f2 f3
          omega
        · rcases Nat.lt_or_ge (a + 1 + i) e' with l | l
          · have := size_mono (ws := ws) (Nat.le_refl a) (show a < a + 1 + (i + 1) by omega) (show a + 1 + (i + 1) ≤ e' by omega) g2
            omega
          · exact l
      · have hsz := hw.size a (a + 1 + (i + 1))
        refine ⟨_, rfl, _, rfl, t, _, _, _, rfl, rfl, hT1, at_of e1 gt, ?_⟩
        refine ⟨fun σ H2 => H2 = H' ∧ σ = [some (.ref p), some (.int n), some (.ref t), some (.int a), some (.int (f : Nat)), some (.int (pr ws n a f + tb xs f)), some (.int (size ws a (a + 1 + (i + 1)) : Nat)), some (.int (a + 1 + (i + 1) : Nat)), some (.int (pr ws n a (a + 1 + (i + 1)) + tb xs (a + 1 + (i + 1))))], ?_, ?_⟩
        · refine ⟨_, rfl, _, rfl, p, _, rfl, .inl hS1, _, _, rfl, rfl, _, rfl, tst (c := a + 1 + (i + 1) < ws.length) (by rw [List.length_map]; simp only [decide_eq_decide]; omega) (fun h2 => ?_) (fun h2 => ?_)⟩
          · refine ⟨_, rfl, _, rfl, _, rfl, _, _, rfl, rfl, _, rfl, _, rfl, _, _, rfl, rfl, _, _, rfl, rfl, hn.mul (by omega), _, _, rfl, rfl, rfl, ?_⟩
            rw [pr_gap (show ¬ a + 1 + (i + 1) = ws.length by omega)]
            have ex : tb xs (a + 1 + i + 1) + (n - (size ws a (a + 1 + (i + 1)) : Nat)) * (n - (size ws a (a + 1 + (i + 1)) : Nat)) = (n - (size ws a (a + 1 + (i + 1)) : Nat)) * (n - (size ws a (a + 1 + (i + 1)) : Nat)) + tb xs (a + 1 + (i + 1)) := Int.add_comm _ _
            have e7 : (a : Int) + 2 + (i : Int) = ((a + 1 + (i + 1) : Nat) : Int) := by omega
            rw [← ex, ← e7]
            rfl
          · refine ⟨rfl, ?_⟩
            rw [pr_last (show a + 1 + (i + 1) = ws.length by omega), Int.zero_add]
            have e7 : (a : Int) + 2 + (i : Int) = ((a + 1 + (i + 1) : Nat) : Int) := by omega
            rw [← e7]
            rfl
        rintro σ H2 ⟨rfl, rfl⟩
        refine ⟨_, rfl, _, rfl, _, _, rfl, rfl, _, rfl, tst (c := pr ws n a (a + 1 + (i + 1)) + tb xs (a + 1 + (i + 1)) ≤ pr ws n a f + tb xs f) rfl (fun h2 => ?_) (fun h2 => ?_)⟩
        · refine ⟨_, rfl, _, rfl, rfl, a + 1 + (i + 1), _, _, rfl, by omega, Nat.le_refl _, by omega, by omega, fun e' g1 g2 => ?_⟩
          rcases Nat.lt_or_ge (a + 1 + i) e' with l | l
          · have : e' = a + 1 + (i + 1) := by omega
            subst this
            exact ⟨Int.le_refl _, fun _ => Nat.le_refl _⟩
          · have := f5 e' g1 l
            exact ⟨by omega, fun _ => by omega⟩
        · refine ⟨rfl, f, _, _, rfl, f1, by omega, by omega, by omega, fun e' g1 g2 => ?_⟩
          rcases Nat.lt_or_ge (a + 1 + i) e' with l | l
          · have : e' = a + 1 + (i + 1) := by omega
            subst this
            exact ⟨by omega, fun z => by omega⟩
          · exact f5 e' g1 l
    · rintro σ H' ⟨rfl, f, y, z, rfl, f1, f2, f3, f4, f5⟩
      rw [List.length_map] at f2 f3 f4 f5
      refine ⟨_, rfl, q _ f s1 ⟨f1, by omega, ?_, fun e' g1 g2 g3 => f5 e' g1 (by omega)⟩⟩
      have := size_mono (ws := ws) (Nat.le_refl a) f1 f2 f3
      omega

def TabF (ws : List (List Nat)) (wd : Int) (T : Nat → Int) (from_ : Nat) : Prop := T ws.length = 0 ∧ ∀ a, from_ ≤ a → a < ws.length → ∃ e, Best ws wd T a e ∧ T a = pr ws wd a e + T e
theorem TabF.tab {ws : List (List Nat)} {wd : Int} {T : Nat → Int} (h : TabF ws wd T 0) : Tab ws wd T := ⟨h.1, fun a ha => h.2 a (Nat.zero_le _) ha⟩
theorem Best.congr {ws : List (List Nat)} {wd : Int} {T T' : Nat → Int} {a e : Nat} (h : Best ws wd T a e) (ht : ∀ k, a < k → T k = T' k) : Best ws wd T' a e :=
  ⟨h.1, h.2.1, h.2.2.1, fun e' h1 h2 h3 => by rw [← ht e h.1, ← ht e' h1]; exact h.2.2.2 e' h1 h2 h3⟩
theorem tb_set {xs : List Int} {i : Nat} {v : Int} (k : Nat) : tb (xs.set i v) k = if i = k ∧ i < xs.length then v else tb xs k := by
  unfold tb
  rw [List.getD_eq_getElem?_getD, List.getD_eq_getElem?_getD, List.getElem?_set]
  by_cases h : i = k
  · subst h
    by_cases h2 : i < xs.length
    · rw [if_pos rfl, if_pos h2, if_pos ⟨rfl, h2⟩]; rfl
    · rw [if_pos rfl, if_neg h2, if_neg (fun z => h2 z.2), List.getElem?_eq_none (by omega)]
  · rw [if_neg h, if_neg (fun z => h z.1)]
def sp_grown (K : PySem.W.Frag) : Sp := fun vs H Q _ => ∃ (p q : Addr) (ws : List (List Nat)) (n : Int) (tl : List Int), vs = [.ref p, .int n, .ref q] ∧ SqL K H p (vts ws) ∧ H q = some (.lst (vis tl)) ∧ Bw ws ∧ Wb n ∧ Ft ws n ∧ 1 ≤ tl.length ∧ tl.length ≤ ws.length + 1 ∧
  TabF ws n (tb (List.replicate (ws.length + 1 - tl.length) 0 ++ tl)) (ws.length + 1 - tl.length) ∧
  ∀ H' o xs, Same H H' → H o = none → H' o = some (.lst (vis xs)) → xs.length = ws.length + 1 → Tab ws n (tb xs) → xs.drop (ws.length + 1 - tl.length) = tl → Q (.ref o) H'
theorem ok_grown (A : At K mg "grown" ["words", "width", "tail"] st_grown) (T : Bts mg) (G_line_price : Ok P w K mg base CX0 2 "line_price" ["words", "width", "begin", "end"] (sp_line_price K))
    (G_best_end : Ok P w K mg base CX0 3 "best_end" ["words", "width", "table", "at"] (sp_best_end K)) :
    Ok P w K mg base CX0 4 "grown" ["words", "width", "tail"] (sp_grown K) := by
  refine A.ok sc_grown (fun vs H Q E h => ?_) (fun f cdv A outer s H vs Q E hr h => ?_)
  · obtain ⟨p, q, ws, n, tl, rfl, _⟩ := h; rfl
  · obtain ⟨p, q, ws, n, tl, rfl, hS, eq, hw, hn, ft, t1, t2, tf, k⟩ := h
    refine ⟨_, (pss_cons (ps_set (i := 3) sc_grown.nd rfl (Or.inl rfl) (pe_op op_sub (pe_op op_add (pe_callB (call_lenK K) (by rfl) T.m_len PySem.boot_len (pa_cons (pv 0) pa_nil)) pe_int) (pe_callB (call_lenK K) (by rfl) T.m_len PySem.boot_len (pa_cons (pv 2) pa_nil))))
      (pss_cons (ps_set (i := 4) sc_grown.nd rfl (Or.inl rfl) (pe_op op_cat (pe_lc (own := [("k", 7)]) (g := gName 7) (tt := tYes) rfl sc_grown.nd (pi_range1 (by rfl) T.m_range (pa_cons (pv 3) pa_nil)) (blkOk_by (own := [("k", 7)]) (N := N_grown) (sc := defScope st_grown) (by decide +kernel)) (fun _ _ _ _ _ => pg_name (i := 7) sc_grown.nd rfl (Or.inl rfl)) (fun _ _ _ _ _ => pts_nil) (fun _ _ _ _ _ => pe_int)) (pv 2)))
      (pss_cons (ps_for PassesOwn.never rfl (pi_revR (by rfl) T.m_reversed (prg_1 (by rfl) T.m_range (pv 3))) (pg_name (i := 5) sc_grown.nd rfl (Or.inl rfl))
      (pss_cons (ps_set (i := 6) sc_grown.nd rfl (Or.inl rfl) (pe_cd G_best_end (hr.mono (by decide)) pass0 (pa_cons (pv 0) (pa_cons (pv 1) (pa_cons (pv 4) (pa_cons (pv 5) pa_nil))))))
      (pss_one (ps_asg (pe_op op_add (pe_cd G_line_price (hr.mono (by decide)) pass0 (pa_cons (pv 0) (pa_cons (pv 1) (pa_cons (pv 5) (pa_cons (pv 6) pa_nil))))) (pe_ix (ix_listK K) (pv 4) (pv 6) (fun _ _ => rfl))) (pg_sub (pv 4) (pv 5) set_list)))))
      (pss_one (ps_ret (pv 4)))))), ?_⟩
    have hle := hw.le
    obtain ⟨c, hc⟩ : ∃ c, ws.length + 1 - tl.length = c := ⟨_, rfl⟩
    rw [hc] at tf
    have ec : ((vts ws).length : Int) + 1 - ((vis tl).length : Nat) = (c : Int) := by rw [List.length_map, List.length_map]; omega
    refine ⟨_, rfl, p, _, rfl, .inl hS, _, _, rfl, rfl, _, rfl, q, _, rfl, .inl (.of eq), rI0_at (v := .int (c : Nat)) (congrArg V.int ec) ?_⟩
    refine ⟨_, rfl, c, rfl, by omega, by omega, fun D hD => ?_⟩
    refine lc_range (lo := 0) (n := c) (fun i H' => Same H H' ∧ H' D = some (.lst (vis (List.replicate i 0)))) ?_ ?_ ?_
    · exact ⟨(Same.refl H).new hD, upd_same⟩
    · rintro i H' hi ⟨s1, eD⟩
      refine ⟨rfl, ?_⟩
      refine ⟨_, eD, by rw [List.length_map, List.length_replicate]; exact szl (by omega), s1.put hD, ?_⟩
      rw [upd_same, List.replicate_succ', vis_app]
    rintro H1 ⟨s1, eD⟩
    refine ⟨_, rfl, D, q, _, _, rfl, rfl, eD, s1 _ _ eq, sz (by rw [List.length_map, List.length_map, List.length_replicate]; omega), fun o no => ?_⟩
    have ev : vis (List.replicate c (0 : Int)) ++ vis tl = vis (List.replicate c 0 ++ tl) := List.map_append.symm
    rw [ev]
    have s2 := s1.new (o := HO.lst (vis (List.replicate c 0 ++ tl))) no
    have eo : (upd H1 o (HO.lst (vis (List.replicate c 0 ++ tl)))) o = some (.lst (vis (List.replicate c 0 ++ tl))) := upd_same
    have no' := s1.free no
    generalize upd H1 o (HO.lst (vis (List.replicate c 0 ++ tl))) = H2 at s2 eo ⊢
    refine ⟨_, rfl, c, rfl, by decide, by decide, by omega, by omega, ?_⟩
    have hcn : (((c : Int) - 0).toNat) = c := by omega
    refine for_rangeC (n := ((c : Int) - 0).toNat) (fun i σ H' => Same H H' ∧ ∃ (xs : List Int) (y z u : Option V), σ = [some (.ref p), some (.int n), some (.ref q), some (.int c), some (.ref o), y, z, u] ∧ H' o = some (.lst (vis xs)) ∧ xs.length = ws.length + 1 ∧
      TabF ws n (tb xs) (c - i) ∧ xs.drop c = tl) ?_ ?_ ?_
    · refine ⟨s2, _, none, none, none, rfl, eo, by rw [List.length_append, List.length_replicate]; omega, tf, ?_⟩
      rw [List.drop_append, List.length_replicate, Nat.sub_self, List.drop_of_length_le (by rw [List.length_replicate]; exact Nat.le_refl _)]
      simp
    · rintro i σ H' hi ⟨s3, xs, y, z, u, rfl, eo3, hl, hf, hd⟩
      rw [hcn] at hi
      obtain ⟨a, ha⟩ : ∃ a, c - i - 1 = a := ⟨_, rfl⟩
      have haw : a < ws.length := by omega
      have e0 : (0 : Int) + ((((c : Int) - 0).toNat : Nat) : Int) - 1 + (i : Nat) * (-1 : Int) = (a : Int) := by omega
      refine (show gName 5 (V.int ((0 : Int) + ((((c : Int) - 0).toNat : Nat) : Int) - 1 + (i : Nat) * (-1 : Int))) _ _ _ from ?_)
      rw [e0]
      refine ⟨_, rfl, _, rfl, _, rfl, _, rfl, p, o, ws, n, xs, a, rfl, s3.seq hS, .of eo3, hw, hn, ft, hl, haw, fun H4 e s4 hb => ?_⟩
      have eo4 := s4 _ _ eo3
      have s34 := s3.trans s4
      refine ⟨_, rfl, _, rfl, _, rfl, _, rfl, p, ws, n, a, e, rfl, s34.seq hS, hw, hn, Nat.le_of_lt hb.1, hb.2.1, fun H5 s5 => ?_⟩
      have eo5 := s5 _ _ eo4
      have s35 := s34.trans s5
      have hex : ixN (vis xs).length (a : Int) = some a := by
        unfold ixN
        rw [if_pos (by omega), if_pos (by rw [List.length_map]; omega)]; simp
      refine ⟨_, rfl, _, rfl, o, _, _, _, rfl, rfl, .of eo5, atI_nat (tb_get (by have := hb.2.1; omega)), _, _, rfl, rfl, _, rfl, _, rfl, o, _, _, a, rfl, rfl, eo5, hex, ?_⟩
      refine ⟨s35.put no', xs.set a (pr ws n a e + tb xs e), some (.int a), some (.int e), u, rfl, ?_, by rw [List.length_set]; exact hl, ?_, ?_⟩
      · rw [upd_same]; exact congrArg some (congrArg HO.lst List.map_set.symm)
      · refine ⟨?_, fun a' h1 h2 => ?_⟩
        · rw [tb_set, if_neg (by omega)]; exact hf.1
        · have hT : ∀ k, a' < k → tb xs k = tb (xs.set a (pr ws n a e + tb xs e)) k := fun k hk => by rw [tb_set, if_neg (by omega)]
          rcases Nat.lt_or_ge a a' with h | h
          · obtain ⟨e2, g1, g2⟩ := hf.2 a' (by omega) h2
            refine ⟨e2, g1.congr hT, ?_⟩
            rw [← hT e2 g1.1, tb_set, if_neg (by omega)]; exact g2
          · have : a' = a := by omega
            subst this
            refine ⟨e, hb.congr hT, ?_⟩
            rw [← hT e hb.1, tb_set, if_pos ⟨rfl, by omega⟩]
      · rw [List.drop_set, if_pos (by omega)]; exact hd
    · rintro σ H' ⟨s3, xs, y, z, u, rfl, eo3, hl, hf, hd⟩
      rw [hcn, Nat.sub_self] at hf
      exact ⟨_, rfl, k H' o xs s3 no' eo3 hl hf.tab (by rw [hc]; exact hd)⟩

def sp_starts_by (K : PySem.W.Frag) : Sp := fun vs H Q _ => ∃ (p t : Addr) (ws : List (List Nat)) (n : Int) (xs : List Int), vs = [.ref p, .int n, .ref t] ∧ SqL K H p (vts ws) ∧ SqL K H t (vis xs) ∧ Bw ws ∧ Wb n ∧ Ft ws n ∧ xs.length = ws.length + 1 ∧
  ∀ H' o ks, Same H H' → H o = none → H' o = some (.lst (vis (toI ks))) → Bc ws n (tb xs) 0 ks → Q (.ref o) H'
theorem ok_starts_by (A : At K mg "starts_by" ["words", "width", "table"] st_starts_by) (T : Bts mg) (G_best_end : Ok P w K mg base CX0 3 "best_end" ["words", "width", "table", "at"] (sp_best_end K)) :
    Ok P w K mg base CX0 4 "starts_by" ["words", "width", "table"] (sp_starts_by K) := by
  refine A.ok sc_starts_by (fun vs H Q E h => ?_) (fun f cdv A outer s H vs Q E hr h => ?_)
  · obtain ⟨p, t, ws, n, xs, rfl, _⟩ := h; rfl
  · obtain ⟨p, t, ws, n, xs, rfl, hS, hT, hw, hn, ft, hl, q⟩ := h
    refine ⟨_, (pss_cons (ps_set (i := 3) sc_starts_by.nd rfl (Or.inl rfl) (pe_lst pa_nil))
      (pss_cons (ps_set (i := 4) sc_starts_by.nd rfl (Or.inl rfl) pe_int)
      (pss_cons (ps_while PassesOwn.never (pt_cmpR op_lt (pv 4) (pe_callB (call_lenK K) (by rfl) T.m_len PySem.boot_len (pa_cons (pv 0) pa_nil)) (nomark _))
      (pss_cons (ps_expr (pe_bm PySem.F.plainAttrs_list PySem.F.slot_list_append PySem.F.type_list_append mt_append (pv 3) (pa_cons (pv 4) pa_nil)))
      (pss_one (ps_set (i := 4) sc_starts_by.nd rfl (Or.inl rfl) (pe_cd G_best_end (hr.mono (by decide)) pass0 (pa_cons (pv 0) (pa_cons (pv 1) (pa_cons (pv 2) (pa_cons (pv 4) pa_nil)))))))))
      (pss_one (ps_ret (pv 3)))))), ?_⟩
    have hle := hw.le
    refine ⟨sz (by simp), fun D hD => ?_⟩
    have s1 := (Same.refl H).new (o := HO.lst []) hD
    have eD : (upd H D (HO.lst [])) D = some (.lst (vis (toI []))) := upd_same
    generalize upd H D (HO.lst []) = H1 at s1 eD ⊢
    refine while_N (fun σ H' => Same H H' ∧ ∃ (x : Nat) (ks : List Nat), σ = [some (.ref p), some (.int n), some (.ref t), some (.ref D), some (.int x)] ∧ H' D = some (.lst (vis (toI ks))) ∧ x ≤ ws.length ∧ ks.length ≤ x ∧
        ∀ r, Bc ws n (tb xs) x r → Bc ws n (tb xs) 0 (ks ++ r)) (fun σ _ => match σ with | [_, _, _, _, some (.int a)] => ((ws.length : Int) - a).toNat | _ => 0) ?_ ?_
    · exact ⟨s1, 0, [], rfl, eD, Nat.zero_le _, Nat.le_refl _, fun r h => h⟩
    rintro σ H' ⟨s2, x, ks, rfl, eD2, hx, hkl, hk⟩
    refine ⟨_, rfl, _, rfl, p, _, rfl, .inl (s2.seq hS), _, _, rfl, rfl, _, rfl, tst (c := x < ws.length) (by rw [List.length_map]; simp only [decide_eq_decide]; omega) (fun h1 => ?_) (fun h1 => ?_)⟩
    · refine ⟨fun σ' H' => (Same H H' ∧ ∃ (x : Nat) (ks : List Nat), σ' = [some (.ref p), some (.int n), some (.ref t), some (.ref D), some (.int x)] ∧ H' D = some (.lst (vis (toI ks))) ∧ x ≤ ws.length ∧ ks.length ≤ x ∧
        ∀ r, Bc ws n (tb xs) x r → Bc ws n (tb xs) 0 (ks ++ r)) ∧ (match σ' with | [_, _, _, _, some (.int a)] => ((ws.length : Int) - a).toNat | _ => 0) < ((ws.length : Int) - (x : Int)).toNat, fun σ' H' ⟨h, h2⟩ => ⟨_, h2, rfl, h⟩, ?_⟩
      refine ⟨_, rfl, .inl ⟨rfl, _, .of eD2⟩, _, rfl, D, _, _, rfl, rfl, eD2, by rw [List.length_map, toI_length]; exact sz (by omega), ?_⟩
      have s3 := s2.put (o := HO.lst (vis (toI ks) ++ [V.int (x : Nat)])) hD
      have eD3 : (upd H' D (HO.lst (vis (toI ks) ++ [V.int (x : Nat)]))) D = some (.lst (vis (toI (ks ++ [x])))) := by
        rw [upd_same, toI_app]; exact congrArg some (congrArg HO.lst (vis_app _ _).symm)
      generalize upd H' D (HO.lst (vis (toI ks) ++ [V.int (x : Nat)])) = H3 at s3 eD3 ⊢
      refine ⟨_, rfl, _, rfl, _, rfl, _, rfl, p, t, ws, n, xs, x, rfl, s3.seq hS, s3.seq hT, hw, hn, ft, hl, h1, fun H4 e s4 hb => ?_⟩
      refine ⟨⟨s3.trans s4, e, ks ++ [x], rfl, s4 _ _ eD3, hb.2.1, by rw [List.length_append, List.length_singleton]; have := hb.1; omega, fun r hr => ?_⟩, ?_⟩
      · rw [List.append_assoc]; exact hk _ ⟨rfl, e, hb, hr⟩
      · show ((ws.length : Int) - (e : Int)).toNat < ((ws.length : Int) - (x : Int)).toNat
        have := hb.1
        omega
    · refine ⟨_, rfl, q H' D ks s2 hD eD2 ?_⟩
      have := hk [] (show x = ws.length by omega)
      rw [List.append_nil] at this; exact this

def sp_is_word : Sp := fun vs H Q _ => ∃ l : List Nat, vs = [vt l] ∧ l.length ≤ 1000000 ∧ Q (.bl (decide (l ≠ [] ∧ 32 ∉ l ∧ 10 ∉ l))) H
theorem ok_is_word (A : At K mg "is_word" ["text"] st_is_word) (T : Bts mg) : Ok P w K mg base CX0 1 "is_word" ["text"] sp_is_word := by
  refine A.ok sc_is_word (fun vs H Q E h => ?_) (fun f cdv A outer s H vs Q E hr h => ?_)
  · obtain ⟨l, rfl, _⟩ := h; rfl
  · obtain ⟨l, rfl, hl, q⟩ := h
    refine ⟨_, (pss_one (ps_ret (pe_and (pe_cmpR op_ne (pv 0) pe_str (nomark _)) (pe_and (pe_cmpR op_notIn_sign pe_str (pv 0) rfl) (pe_one (pe_cmpR op_notIn_sign pe_str (pv 0) rfl)))))), ?_⟩
    refine ⟨_, rfl, rfl, _, rfl, tsn (c := l = []) (ne_vt lit_nil) (fun n1 => ?_) (fun n1 => ?_)⟩
    · refine ⟨_, rfl, 32, tx l, by rw [lit_sp]; rfl, rfl, _, rfl, tsn (c := 32 ∈ l) (by rw [tx_list]) (fun n2 => ?_) (fun n2 => ?_)⟩
      · refine ⟨_, rfl, 10, tx l, by rw [lit_nl]; rfl, rfl, ?_⟩
        have e : (!decide (10 ∈ (tx l).cps.toList)) = decide (l ≠ [] ∧ 32 ∉ l ∧ 10 ∉ l) := by
          rw [tx_list]
          by_cases n3 : 10 ∈ l <;> simp [n1, n2, n3]
        rw [e]; exact q
      · have e : decide (l ≠ [] ∧ 32 ∉ l ∧ 10 ∉ l) = false := decide_eq_false (fun z => z.2.1 n2)
        rw [e] at q; exact q
    · have e : decide (l ≠ [] ∧ 32 ∉ l ∧ 10 ∉ l) = false := decide_eq_false (fun z => z.1 n1)
      rw [e] at q; exact q

def sp_Page___init__ (ea : EA) (C : Addr) : Sp := fun vs H Q E => ∃ (p dx : Addr) (n : Int), vs = [.ref p, .int n] ∧ H p = some (.ins C dx []) ∧ (n < 1 → E (.ref ea.nw) none H) ∧
  (1 ≤ n → ∀ H' fs r t q, PgF fs n r t q → H' p = some (.ins C dx fs) → H r = none → H t = none → H q = none → r ≠ t → r ≠ q → t ≠ q → H' r = some (.lst (vts [])) → H' t = some (.lst (vis [0])) → H' q = some (.lst []) →
    (∀ b o, b ≠ p → H b = some o → H' b = some o) → Q .non H')
theorem ok_Page___init__ {C : Addr} {ea : EA} (A : AtM K C "__init__" "Page.__init__" ["self", "width"] st_Page___init__) (T : Bts mg) (PG : PgC K C) (G_need_width : Ok P w K mg base (CXn P w) 1 "need_width" ["width"] (sp_need_width ea)) :
    OkM P w K mg base (CXn P w) 2 C "__init__" ["self", "width"] (sp_Page___init__ ea C) := by
  refine A.okX sc_Page___init__ (fun vs H Q E h => ?_) (fun f cdv A outer s H vs Q E hr h => ?_)
  · obtain ⟨p, dx, n, rfl, _⟩ := h; rfl
  · obtain ⟨p, dx, n, rfl, ep, e1, k⟩ := h
    refine ⟨_, (pss_cons (ps_expr (pe_cd G_need_width (hr.mono (by decide)) passR (pa_cons (pv 1) pa_nil)))
      (PSs.nox (pss_cons (ps_fld (pv 0) (pv 1) rfl)
      (pss_cons (ps_fld (pv 0) (pe_lst pa_nil) rfl)
      (pss_cons (ps_fld (pv 0) (pe_lst (pa_cons pe_int pa_nil)) rfl)
      (pss_one (ps_fld (pv 0) (pe_lst pa_nil) rfl))))))), ?_⟩
    refine ⟨_, rfl, n, rfl, e1, fun n1 => ?_⟩
    refine ⟨_, rfl, _, rfl, p, C, dx, _, rfl, ep, PG.cl, PG.nw, by decide, ?_⟩
    have np : H p ≠ none := by rw [ep]; exact fun z => nomatch z
    refine ⟨sz (by simp), fun r nr => ?_⟩
    have rp : r ≠ p := fun z => by rw [z, upd_same] at nr; cases nr
    have nr' : H r = none := by rw [upd_ne rp] at nr; exact nr
    refine ⟨_, rfl, p, C, dx, _, rfl, by rw [upd_ne (Ne.symm rp), upd_same], PG.cl, PG.nr, by show 1 < 1000; decide, ?_⟩
    refine ⟨sz (by simp), fun t nt => ?_⟩
    have tp : t ≠ p := fun z => by rw [z, upd_same] at nt; cases nt
    have tr : t ≠ r := fun z => by rw [z, upd_ne rp, upd_same] at nt; cases nt
    have nt' : H t = none := by rw [upd_ne tp, upd_ne tr, upd_ne tp] at nt; exact nt
    refine ⟨_, rfl, p, C, dx, _, rfl, by rw [upd_ne (Ne.symm tp), upd_same], PG.cl, PG.nt, ?_, ?_⟩
    · rw [pf2]; show 2 < 1000; decide
    refine ⟨sz (by simp), fun q nq => ?_⟩
    have qp : q ≠ p := fun z => by rw [z, upd_same] at nq; cases nq
    have qt : q ≠ t := fun z => by rw [z, upd_ne tp, upd_same] at nq; cases nq
    have qr : q ≠ r := fun z => by rw [z, upd_ne rp, upd_ne (Ne.symm tr), upd_ne rp, upd_same] at nq; cases nq
    have nq' : H q = none := by rw [upd_ne qp, upd_ne qt, upd_ne qp, upd_ne qr, upd_ne qp] at nq; exact nq
    refine ⟨_, rfl, p, C, dx, _, rfl, by rw [upd_ne (Ne.symm qp), upd_same], PG.cl, PG.np, ?_, ?_⟩
    · rw [pf3]; show 3 < 1000; decide
    refine k n1 _ _ r t q ?_ upd_same nr' nt' nq' (Ne.symm tr) (Ne.symm qr) (Ne.symm qt) ?_ ?_ ?_ fun b o hb e => ?_
    · exact PgF.mk0 n r t q
    · rw [upd_ne rp, upd_ne (Ne.symm qr), upd_ne rp, upd_ne (Ne.symm tr), upd_ne rp, upd_same]; rfl
    · rw [upd_ne tp, upd_ne (Ne.symm qt), upd_ne tp, upd_same]; rfl
    · rw [upd_ne qp, upd_same]
    · have hbr : b ≠ r := fun z => by rw [z, nr'] at e; cases e
      have hbt : b ≠ t := fun z => by rw [z, nt'] at e; cases e
      have hbq : b ≠ q := fun z => by rw [z, nq'] at e; cases e
      rw [upd_ne hb, upd_ne hbq, upd_ne hb, upd_ne hbt, upd_ne hb, upd_ne hbr, upd_ne hb]; exact e

def sp_Page_keep (C : Addr) : Sp := fun vs H Q _ => ∃ (p dx r t q : Addr) (fs : List (Str × V)) (n : Int) (ps : List V), vs = [.ref p] ∧ H p = some (.ins C dx fs) ∧ PgF fs n r t q ∧ H q = some (.lst ps) ∧ ps.length < 1000000 ∧
  ∀ a, H a = none → Q .non (upd (upd H a (.tup [.ref r, .int n, .ref t])) q (.lst (ps ++ [.ref a])))
theorem ok_Page_keep {C : Addr} (A : AtM K C "keep" "Page.keep" ["self"] st_Page_keep) (T : Bts mg) (PG : PgC K C) : OkM P w K mg base CX0 1 C "keep" ["self"] (sp_Page_keep C) := by
  refine A.ok sc_Page_keep (fun vs H Q E h => ?_) (fun f cdv A outer s H vs Q E hr h => ?_)
  · obtain ⟨p, dx, r, t, q, fs, n, ps, rfl, _⟩ := h; rfl
  · obtain ⟨p, dx, r, t, q, fs, n, ps, rfl, ep, F, eq, hl, k⟩ := h
    refine ⟨_, (pss_one (ps_expr (pe_bm PySem.F.plainAttrs_list PySem.F.slot_list_append PySem.F.type_list_append mt_append (pe_fld (pv 0) rfl) (pa_cons (pe_tup (pa_cons (pe_fld (pv 0) rfl) (pa_cons (pe_fld (pv 0) rfl) (pa_cons (pe_fld (pv 0) rfl) pa_nil)))) pa_nil)))), ?_⟩
    refine ⟨_, rfl, p, C, dx, _, _, rfl, ep, PG.cl, PG.np, F.q, .inl ⟨rfl, _, .of eq⟩, _, rfl, p, C, dx, _, _, rfl, ep, PG.cl, PG.nr, F.r, _, rfl, p, C, dx, _, _, rfl, ep, PG.cl, PG.nw, F.w, _, rfl, p, C, dx, _, _, rfl, ep, PG.cl, PG.nt, F.t, sz (by simp), fun a na => ?_⟩
    exact ⟨q, _, _, rfl, rfl, kept eq na, szl (by omega), k a na⟩

theorem tb_rep (c : Nat) (tl : List Int) (k : Nat) : tb (List.replicate c 0 ++ tl) (c + k) = tb tl k := by
  unfold tb
  rw [List.getD_eq_getElem?_getD, List.getD_eq_getElem?_getD, List.getElem?_append_right (by rw [List.length_replicate]; omega), List.length_replicate, Nat.add_sub_cancel_left]
theorem tb_drop (xs : List Int) (c k : Nat) : tb (xs.drop c) k = tb xs (c + k) := by
  unfold tb
  rw [List.getD_eq_getElem?_getD, List.getD_eq_getElem?_getD, List.getElem?_drop]
/-- a table's end is a tail for other words with the same end -/
theorem tail_ok {ws ws' : List (List Nat)} {wd : Int} {xs : List Int} {c c' : Nat} (t : Tab ws wd (tb xs)) (hc : c ≤ ws.length) (hc' : c' ≤ ws'.length) (he : ws'.drop c' = ws.drop c) :
    TabF ws' wd (tb (List.replicate c' 0 ++ xs.drop c)) c' := by
  have h := t.drop hc
  rw [← he] at h
  have e : (fun k => tb xs (c + k)) = (fun k => tb (List.replicate c' 0 ++ xs.drop c) (c' + k)) := by
    funext k
    rw [tb_rep, tb_drop]
  rw [e] at h
  exact Tab.lift hc' h
theorem _root_.Tw.Bw.putIn {ws : List (List Nat)} (h : Bw ws) (h1 : ws.length < 1000) (h2 : total ws ≤ 1000000) {w : List Nat} (hw : plainTx w) (hl : w.length ≤ 1000) (j : Nat) : Bw (ws.take j ++ [w] ++ ws.drop j) :=
  ⟨by rw [List.length_append, List.length_append, List.length_take, List.length_drop, List.length_singleton]; omega,
   by
    have h3 := total_app (ws.take j) (ws.drop j)
    rw [List.take_append_drop] at h3
    have e1 : total [w] = w.length := by simp [total]
    rw [total_app, total_app, e1]; omega,
   fun x hx => by
    rcases List.mem_append.mp hx with z | z
    · rcases List.mem_append.mp z with z | z
      · exact h.pl x (List.mem_of_mem_take z)
      · rw [List.mem_singleton.mp z]; exact hw
    · exact h.pl x (List.mem_of_mem_drop z)⟩
def sp_Page_put (ea : EA) (C : Addr) : Sp := fun vs H Q E => ∃ (p dx r t q : Addr) (fs : List (Str × V)) (n i : Int) (w : List Nat) (ws : List (List Nat)) (xs : List Int) (ps : List V), vs = [.ref p, .int i, vt w] ∧ H p = some (.ins C dx fs) ∧ PgF fs n r t q ∧ H r = some (.lst (vts ws)) ∧ H t = some (.lst (vis xs)) ∧
  r ≠ q ∧ t ≠ q ∧ H q = some (.lst ps) ∧ ps.length < 1000000 ∧ p ≠ q ∧ Bw ws ∧ ws.length ≤ 120 ∧ total ws ≤ 1000000 ∧ Wb n ∧ Ft ws n ∧ xs.length = ws.length + 1 ∧ Tab ws n (tb xs) ∧ plainTx w ∧ w.length ≤ 1000 ∧
  (¬ (0 ≤ i ∧ i ≤ (ws.length : Nat)) → E (.ref ea.np) none H) ∧
  (0 ≤ i ∧ i ≤ (ws.length : Nat) → ¬ (w ≠ [] ∧ 32 ∉ w ∧ 10 ∉ w) → E (.ref ea.nwd) none H) ∧
  (0 ≤ i ∧ i ≤ (ws.length : Nat) → (w ≠ [] ∧ 32 ∉ w ∧ 10 ∉ w) → n < (w.length : Nat) → E (.ref ea.lw) none H) ∧
  (0 ≤ i ∧ i ≤ (ws.length : Nat) → (w ≠ [] ∧ 32 ∉ w ∧ 10 ∉ w) → ((w.length : Nat) : Int) ≤ n → ws.length = 120 → E (.ref ea.fl) none H) ∧
  (∀ (k : Nat) (hk : k ≤ ws.length), i = (k : Int) → (w ≠ [] ∧ 32 ∉ w ∧ 10 ∉ w) → ((w.length : Nat) : Int) ≤ n → ws.length < 120 → ∀ H' fs' r' t' a xs', PgF fs' n r' t' q → H' p = some (.ins C dx fs') → H' q = some (.lst (ps ++ [.ref a])) → H a = none → H' a = some (.tup [.ref r, .int n, .ref t]) →
    H r' = none → H' r' = some (.lst (vts (ws.take k ++ [w] ++ ws.drop k))) → H t' = none → H' t' = some (.lst (vis xs')) → xs'.length = ws.length + 2 → Tab (ws.take k ++ [w] ++ ws.drop k) n (tb xs') →
    (∀ b o, b ≠ p → b ≠ q → H b = some o → H' b = some o) → Q .non H')
theorem ok_Page_put {C : Addr} {ea : EA} (A : AtM K C "put" "Page.put" ["self", "at", "word"] st_Page_put) (T : Bts mg) (X : Xs K mg ea) (PG : PgC K C) {tmw : _} (MW : mg "MOST_WORDS" = some (.int 120 tmw))
    (G_is_word : Ok P w K mg base CX0 1 "is_word" ["text"] sp_is_word)
    (G_grown : Ok P w K mg base CX0 4 "grown" ["words", "width", "tail"] (sp_grown K)) (G_Page_keep : OkM P w K mg base CX0 1 C "keep" ["self"] (sp_Page_keep C)) :
    OkM P w K mg base (CXn P w) 5 C "put" ["self", "at", "word"] (sp_Page_put ea C) := by
  refine A.okX sc_Page_put (fun vs H Q E h => ?_) (fun f cdv A outer s H vs Q E hr h => ?_)
  · obtain ⟨p, dx, r, t, q, fs, n, i, w, ws, xs, ps, rfl, _⟩ := h; rfl
  · obtain ⟨p, dx, r, t, q, fs, n, i, w, ws, xs, ps, rfl, ep, F, eR, eT, rq, tq, eq, hl, pq, hb, h120, htot, hn, ft, xl, tab, hpw, hwl, e1, e2, e3, e4, k⟩ := h
    refine ⟨_, (pss_cons (ps_if (pt_not (pt_chain op_le op_le pe_int (pv 1) (pe_callB (call_lenK K) (by rfl) T.m_len PySem.boot_len (pa_cons (pe_fld (pv 0) rfl) pa_nil)))) (pss_one (L2N.ps_raise rfl (L2N.takes_of rfl rfl rfl rfl) (X.c_NoPlace.mk_raise (by rfl)))) pss_nil)
      (pss_cons (ps_if (pt_not (pt_val (pe_cd G_is_word (hr.mono (by decide)) pass0 (pa_cons (pv 2) pa_nil)))) (pss_one (L2N.ps_raise rfl (L2N.takes_of rfl rfl rfl rfl) (X.c_NoWord.mk_raise (by rfl)))) pss_nil)
      (pss_cons (ps_if (pt_cmpR op_gt (pe_callB call_len_str (by rfl) T.m_len PySem.boot_len (pa_cons (pv 2) pa_nil)) (pe_fld (pv 0) rfl) (nomark _)) (pss_one (L2N.ps_raise rfl (L2N.takes_of rfl rfl rfl rfl) (X.c_LongWord.mk_raise (by rfl)))) pss_nil)
      (pss_cons (ps_if (pt_cmpR op_eq (pe_callB (call_lenK K) (by rfl) T.m_len PySem.boot_len (pa_cons (pe_fld (pv 0) rfl) pa_nil)) (pe_glob (v := .int 120) rfl MW ⟨_, rfl⟩) (nomark _)) (pss_one (L2N.ps_raise rfl (L2N.takes_of rfl rfl rfl rfl) (X.c_Full.mk_raise (by rfl)))) pss_nil)
      (PSs.nox (pss_cons (ps_expr (pe_md0 (pv 0) PG.cl G_Page_keep (hr.mono (by decide)) pass0))
      (pss_cons (ps_set (i := 3) sc_Page_put.nd rfl (Or.inl rfl) (pe_slice (sl_listK K) (pe_fld (pv 0) rfl) (po_some (pv 1)) po_none))
      (pss_cons (ps_fld (pv 0) (pe_op op_cat (pe_op op_cat (pe_slice (sl_listK K) (pe_fld (pv 0) rfl) po_none (po_some (pv 1))) (pe_lst (pa_cons (pv 2) pa_nil))) (pe_slice (sl_listK K) (pe_fld (pv 0) rfl) (po_some (pv 1)) po_none)) rfl)
      (pss_one (ps_fld (pv 0) (pe_cd G_grown (hr.mono (by decide)) pass0 (pa_cons (pe_fld (pv 0) rfl) (pa_cons (pe_fld (pv 0) rfl) (pa_cons (pv 3) pa_nil)))) rfl)))))))))), ?_⟩
    have elw : (((vts ws).length : Nat) : Int) = (ws.length : Nat) := by rw [List.length_map]
    refine ⟨_, rfl, _, _, rfl, rfl, _, rfl, ?_⟩
    by_cases h0 : 0 ≤ i
    · rw [decide_eq_true h0]
      refine ⟨_, rfl, p, C, dx, _, _, rfl, ep, PG.cl, PG.nr, F.r, r, _, rfl, .inl (.of eR), _, _, rfl, rfl, _, rfl, tsn (c := i ≤ (ws.length : Nat)) (by rw [elw]) (fun h1 => e1 fun z => h1 z.2) (fun h1 => ?_)⟩
      have h01 : 0 ≤ i ∧ i ≤ (ws.length : Nat) := ⟨h0, h1⟩
      obtain ⟨j, rfl⟩ : ∃ j : Nat, i = (j : Int) := ⟨i.toNat, by omega⟩
      have hj : j ≤ ws.length := by omega
      have hle := hb.le
      refine ⟨_, rfl, w, rfl, by omega, _, rfl, tsn (c := w ≠ [] ∧ 32 ∉ w ∧ 10 ∉ w) rfl (fun h2 => e2 h01 h2) (fun h2 => ?_)⟩
      refine ⟨_, rfl, tx w, rfl, by rw [tx_len]; exact sz (by omega), _, rfl, p, C, dx, _, _, rfl, ep, PG.cl, PG.nw, F.w, _, _, rfl, rfl, _, rfl, tst (c := n < (w.length : Nat)) (by rw [tx_len]) (fun h3 => e3 h01 h2 h3) (fun h3 => ?_)⟩
      refine ⟨_, rfl, p, C, dx, _, _, rfl, ep, PG.cl, PG.nr, F.r, r, _, rfl, .inl (.of eR), rfl, _, rfl, tst (c := ws.length = 120) (by rw [elw, dec_vi]; exact decide_eq_decide.mpr (by omega)) (fun h4 => e4 h01 h2 (by omega) h4) (fun h4 => ?_)⟩
      refine ⟨_, rfl, p, dx, fs, rfl, ep, F.no _ (by decide +kernel) (by decide +kernel) (by decide +kernel) (by decide +kernel), p, dx, r, t, q, fs, n, ps, rfl, ep, F, eq, hl, fun a na => ?_⟩
      have ap : a ≠ p := fun z => by rw [z, ep] at na; cases na
      have aq : a ≠ q := fun z => by rw [z, eq] at na; cases na
      have rp : r ≠ p := fun z => by rw [z, ep] at eR; cases eR
      have tp : t ≠ p := fun z => by rw [z, ep] at eT; cases eT
      have ep2 : (upd (upd H a (.tup [.ref r, .int n, .ref t])) q (.lst (ps ++ [.ref a]))) p = some (.ins C dx fs) := by rw [upd_ne pq, upd_ne (Ne.symm ap)]; exact ep
      have eq2 : (upd (upd H a (.tup [.ref r, .int n, .ref t])) q (.lst (ps ++ [.ref a]))) q = some (.lst (ps ++ [.ref a])) := upd_same
      have ea2 : (upd (upd H a (.tup [.ref r, .int n, .ref t])) q (.lst (ps ++ [.ref a]))) a = some (.tup [.ref r, .int n, .ref t]) := by rw [upd_ne aq, upd_same]
      have k2 : ∀ b o, b ≠ p → b ≠ q → H b = some o → (upd (upd H a (.tup [.ref r, .int n, .ref t])) q (.lst (ps ++ [.ref a]))) b = some o := fun b o _ h2 e => by
        rw [upd_ne h2]; exact kept e na
      have n2 : ∀ b, (upd (upd H a (.tup [.ref r, .int n, .ref t])) q (.lst (ps ++ [.ref a]))) b = none → H b = none := fun b e => by
        have h1 : b ≠ q := fun z => by rw [z, upd_same] at e; cases e
        rw [upd_ne h1] at e
        have h2 : b ≠ a := fun z => by rw [z, upd_same] at e; cases e
        rw [upd_ne h2] at e; exact e
      generalize upd (upd H a (.tup [.ref r, .int n, .ref t])) q (.lst (ps ++ [.ref a])) = H2 at ep2 eq2 ea2 k2 n2 ⊢
      have eR2 := k2 r _ rp rq eR
      have eT2 := k2 t _ tp tq eT
      refine ⟨_, rfl, p, C, dx, _, _, rfl, ep2, PG.cl, PG.nt, F.t, _, rfl, ((j : Nat) : Int), rfl, t, _, rfl, .of eT2, fun u nu => ?_⟩
      have eu : cutV (vis xs) (some ((j : Nat) : Int)) none = vis (xs.drop j) := cut_from V.int xs j
      rw [eu]
      have s3 := (Same.refl H2).new (o := HO.lst (vis (xs.drop j))) nu
      have eu3 : (upd H2 u (HO.lst (vis (xs.drop j)))) u = some (.lst (vis (xs.drop j))) := upd_same
      generalize upd H2 u (HO.lst (vis (xs.drop j))) = H3 at s3 eu3 ⊢
      refine ⟨_, rfl, p, C, dx, _, _, rfl, s3 _ _ ep2, PG.cl, PG.nr, F.r, _, rfl, (j : Nat), rfl, r, _, rfl, .of (s3 _ _ eR2), fun v nv => ?_⟩
      have ev : cutV (vts ws) none (some (j : Int)) = vts (ws.take j) := cut_to vt ws j
      rw [ev]
      have s4 := s3.new (o := HO.lst (vts (ws.take j))) nv
      have eu4 := kept eu3 nv (o := HO.lst (vts (ws.take j)))
      have ev4 : (upd H3 v (HO.lst (vts (ws.take j)))) v = some (.lst (vts (ws.take j))) := upd_same
      generalize upd H3 v (HO.lst (vts (ws.take j))) = H4 at s4 eu4 ev4 ⊢
      refine ⟨_, rfl, sz (by simp), fun g ng => ?_⟩
      have s4g := s4.new (o := HO.lst [vt w]) ng
      have eu4g := kept eu4 ng (o := HO.lst [vt w])
      have ev4g := kept ev4 ng (o := HO.lst [vt w])
      have eg4 : (upd H4 g (HO.lst [vt w])) g = some (.lst (vts [w])) := upd_same
      generalize upd H4 g (HO.lst [vt w]) = H4g at s4g eu4g ev4g eg4 ⊢
      refine ⟨v, g, _, _, rfl, rfl, ev4g, eg4, sz (by rw [List.length_map, List.length_map, List.length_take, List.length_singleton]; omega), fun m nm => ?_⟩
      rw [show vts (ws.take j) ++ vts [w] = vts (ws.take j ++ [w]) from List.map_append.symm]
      have s4m := s4g.new (o := HO.lst (vts (ws.take j ++ [w]))) nm
      have eu4m := kept eu4g nm (o := HO.lst (vts (ws.take j ++ [w])))
      have em4 : (upd H4g m (HO.lst (vts (ws.take j ++ [w])))) m = some (.lst (vts (ws.take j ++ [w]))) := upd_same
      generalize upd H4g m (HO.lst (vts (ws.take j ++ [w]))) = H4m at s4m eu4m em4 ⊢
      refine ⟨_, rfl, p, C, dx, _, _, rfl, s4m _ _ ep2, PG.cl, PG.nr, F.r, _, rfl, ((j : Nat) : Int), rfl, r, _, rfl, .of (s4m _ _ eR2), fun y ny => ?_⟩
      have ey : cutV (vts ws) (some ((j : Nat) : Int)) none = vts (ws.drop j) := cut_from vt ws j
      rw [ey]
      have s5 := s4m.new (o := HO.lst (vts (ws.drop j))) ny
      have eu5 := kept eu4m ny (o := HO.lst (vts (ws.drop j)))
      have em5 := kept em4 ny (o := HO.lst (vts (ws.drop j)))
      have ey5 : (upd H4m y (HO.lst (vts (ws.drop j)))) y = some (.lst (vts (ws.drop j))) := upd_same
      generalize upd H4m y (HO.lst (vts (ws.drop j))) = H5 at s5 eu5 em5 ey5 ⊢
      refine ⟨m, y, _, _, rfl, rfl, em5, ey5, sz (by rw [List.length_map, List.length_map, List.length_append, List.length_take, List.length_drop, List.length_singleton]; omega), fun r' nr' => ?_⟩
      rw [show vts (ws.take j ++ [w]) ++ vts (ws.drop j) = vts (ws.take j ++ [w] ++ ws.drop j) from List.map_append.symm]
      have hls : (ws.take j ++ [w] ++ ws.drop j).length = ws.length + 1 := by rw [List.length_append, List.length_append, List.length_take, List.length_drop, List.length_singleton]; omega
      have hb' : Bw (ws.take j ++ [w] ++ ws.drop j) := hb.putIn (by omega) htot hpw hwl j
      have ft' : Ft (ws.take j ++ [w] ++ ws.drop j) n := ⟨ft.1, fun x hx => by
        rcases List.mem_append.mp hx with h | h
        · rcases List.mem_append.mp h with h | h
          · exact ft.2 x (List.mem_of_mem_take h)
          · rw [List.mem_singleton.mp h]; omega
        · exact ft.2 x (List.mem_of_mem_drop h)⟩
      have hd' : (ws.take j ++ [w] ++ ws.drop j).drop (j + 1) = ws.drop j := by
        have e3 : (ws.take j ++ [w]).length = j + 1 := by rw [List.length_append, List.length_take, List.length_singleton]; omega
        rw [List.drop_append_of_le_length (by omega), List.drop_eq_nil_of_le (by omega)]; rfl
      have s6 := s5.new (o := HO.lst (vts (ws.take j ++ [w] ++ ws.drop j))) nr'
      have eu6 := kept eu5 nr' (o := HO.lst (vts (ws.take j ++ [w] ++ ws.drop j)))
      have er6 : (upd H5 r' (HO.lst (vts (ws.take j ++ [w] ++ ws.drop j)))) r' = some (.lst (vts (ws.take j ++ [w] ++ ws.drop j))) := upd_same
      have fr : H2 r' = none := s5.free nr'
      have fu : H2 u = none := nu
      have hkk := fun H' fs' t' a xs' => k j hj rfl h2 (by omega) (by omega) H' fs' r' t' a xs'
      generalize ws.take j ++ [w] ++ ws.drop j = W at hls hb' ft' hd' s6 eu6 er6 hkk ⊢
      generalize upd H5 r' (HO.lst (vts W)) = H6 at s6 eu6 er6 ⊢
      have ep6 := s6 _ _ ep2
      have rp' : r' ≠ p := fun z => by rw [z, ep2] at fr; cases fr
      have up' : u ≠ p := fun z => by rw [z, ep2] at fu; cases fu
      have rq' : r' ≠ q := fun z => by rw [z, eq2] at fr; cases fr
      refine ⟨_, rfl, p, C, dx, fs, rfl, ep6, PG.cl, PG.nr, by rw [F.len]; decide, ?_⟩
      have F7 := F.setR r'
      have ep7 : (upd H6 p (.ins C dx (putF "row" (.ref r') fs))) p = some (.ins C dx (putF "row" (.ref r') fs)) := upd_same
      have k7 : ∀ b o, b ≠ p → H6 b = some o → (upd H6 p (.ins C dx (putF "row" (.ref r') fs))) b = some o := fun b o h e => by rw [upd_ne h]; exact e
      have n7 : ∀ b, (upd H6 p (.ins C dx (putF "row" (.ref r') fs))) b = none → H6 b = none := fun b e => by
        have h1 : b ≠ p := fun z => by rw [z, upd_same] at e; cases e
        rw [upd_ne h1] at e; exact e
      generalize upd H6 p (.ins C dx (putF "row" (.ref r') fs)) = H7 at ep7 k7 n7 ⊢
      refine ⟨_, rfl, p, C, dx, _, _, rfl, ep7, PG.cl, PG.nr, F7.r, _, rfl, p, C, dx, _, _, rfl, ep7, PG.cl, PG.nw, F7.w, _, rfl, ?_⟩
      have hc' : W.length + 1 - (xs.drop j).length = j + 1 := by rw [List.length_drop]; omega
      refine ⟨r', u, W, n, xs.drop j, rfl, .of (k7 _ _ rp' er6), k7 _ _ up' eu6, hb', hn, ft', by rw [List.length_drop]; omega, by rw [List.length_drop]; omega, ?_, fun H8 o xs' s8 no eo xl' ht _ => ?_⟩
      · rw [hc']
        exact tail_ok tab (by omega) (by omega) hd'
      have no6 := n7 _ no
      have no2 := s6.free no6
      have op : o ≠ p := fun z => by rw [z, ep2] at no2; cases no2
      have oq : o ≠ q := fun z => by rw [z, eq2] at no2; cases no2
      refine ⟨_, rfl, p, C, dx, _, rfl, s8 _ _ ep7, PG.cl, PG.nt, by rw [F7.len]; decide, ?_⟩
      refine hkk _ _ o a xs' (F7.setT o) upd_same ?_ na ?_ (n2 _ fr) ?_ (n2 _ no2) ?_ (by omega) ht fun b o' h1 h2 e => ?_
      · rw [upd_ne (Ne.symm pq)]; exact s8 _ _ (k7 q _ (Ne.symm pq) (s6 _ _ eq2))
      · rw [upd_ne ap]; exact s8 _ _ (k7 a _ ap (s6 _ _ ea2))
      · rw [upd_ne rp']; exact s8 _ _ (k7 r' _ rp' er6)
      · rw [upd_ne op]; exact eo
      · rw [upd_ne h1]; exact s8 _ _ (k7 b _ h1 (s6 _ _ (k2 b _ h1 h2 e)))
    · rw [decide_eq_false h0]
      refine iteF ?_
      exact ⟨_, rfl, iteT (e1 fun z => h0 z.1)⟩

theorem _root_.Tw.Bw.cutOut {ws : List (List Nat)} (h : Bw ws) (j : Nat) : Bw (ws.take j ++ ws.drop (j + 1)) :=
  ⟨by have := h.le; rw [List.length_append, List.length_take, List.length_drop]; omega,
   by
    have h1 := total_app (ws.take j) (ws.drop j)
    rw [List.take_append_drop] at h1
    have h2 : total (ws.drop (j + 1)) ≤ total (ws.drop j) := by rw [← List.drop_drop]; exact total_drop _ _
    have := h.tot
    rw [total_app]; omega,
   fun x hx => by
    rcases List.mem_append.mp hx with z | z
    · exact h.pl x (List.mem_of_mem_take z)
    · exact h.pl x (List.mem_of_mem_drop z)⟩
def sp_Page_drop (ea : EA) (C : Addr) : Sp := fun vs H Q E => ∃ (p dx r t q : Addr) (fs : List (Str × V)) (n i : Int) (ws : List (List Nat)) (xs : List Int) (ps : List V), vs = [.ref p, .int i] ∧ H p = some (.ins C dx fs) ∧ PgF fs n r t q ∧ H r = some (.lst (vts ws)) ∧ H t = some (.lst (vis xs)) ∧
  r ≠ q ∧ t ≠ q ∧ H q = some (.lst ps) ∧ ps.length < 1000000 ∧ p ≠ q ∧ Bw ws ∧ Wb n ∧ Ft ws n ∧ xs.length = ws.length + 1 ∧ Tab ws n (tb xs) ∧
  (¬ (0 ≤ i ∧ i < (ws.length : Nat)) → E (.ref ea.np) none H) ∧
  (∀ (k : Nat) (hk : k < ws.length), i = (k : Int) → ∀ H' fs' r' t' a xs', PgF fs' n r' t' q → H' p = some (.ins C dx fs') → H' q = some (.lst (ps ++ [.ref a])) → H a = none → H' a = some (.tup [.ref r, .int n, .ref t]) →
    H r' = none → H' r' = some (.lst (vts (ws.take k ++ ws.drop (k + 1)))) → H t' = none → H' t' = some (.lst (vis xs')) → xs'.length = ws.length → Tab (ws.take k ++ ws.drop (k + 1)) n (tb xs') →
    (∀ b o, b ≠ p → b ≠ q → H b = some o → H' b = some o) → Q (vt ws[k]) H')
theorem ok_Page_drop {C : Addr} {ea : EA} (A : AtM K C "drop" "Page.drop" ["self", "at"] st_Page_drop) (T : Bts mg) (X : Xs K mg ea) (PG : PgC K C)
    (G_grown : Ok P w K mg base CX0 4 "grown" ["words", "width", "tail"] (sp_grown K)) (G_Page_keep : OkM P w K mg base CX0 1 C "keep" ["self"] (sp_Page_keep C)) :
    OkM P w K mg base (CXn P w) 5 C "drop" ["self", "at"] (sp_Page_drop ea C) := by
  refine A.okX sc_Page_drop (fun vs H Q E h => ?_) (fun f cdv A outer s H vs Q E hr h => ?_)
  · obtain ⟨p, dx, r, t, q, fs, n, i, ws, xs, ps, rfl, _⟩ := h; rfl
  · obtain ⟨p, dx, r, t, q, fs, n, i, ws, xs, ps, rfl, ep, F, eR, eT, rq, tq, eq, hl, pq, hb, hn, ft, xl, tab, e1, k⟩ := h
    refine ⟨_, (pss_cons (ps_if (pt_not (pt_chain op_le op_lt pe_int (pv 1) (pe_callB (call_lenK K) (by rfl) T.m_len PySem.boot_len (pa_cons (pe_fld (pv 0) rfl) pa_nil)))) (pss_one (L2N.ps_raise rfl (L2N.takes_of rfl rfl rfl rfl) (X.c_NoPlace.mk_raise (by rfl)))) pss_nil)
      (PSs.nox (pss_cons (ps_expr (pe_md0 (pv 0) PG.cl G_Page_keep (hr.mono (by decide)) pass0))
      (pss_cons (ps_set (i := 2) sc_Page_drop.nd rfl (Or.inl rfl) (pe_ix (ix_listK K) (pe_fld (pv 0) rfl) (pv 1) (fun _ _ => rfl)))
      (pss_cons (ps_set (i := 3) sc_Page_drop.nd rfl (Or.inl rfl) (pe_slice (sl_listK K) (pe_fld (pv 0) rfl) (po_some (pe_op op_add (pv 1) pe_int)) po_none))
      (pss_cons (ps_fld (pv 0) (pe_op op_cat (pe_slice (sl_listK K) (pe_fld (pv 0) rfl) po_none (po_some (pv 1))) (pe_slice (sl_listK K) (pe_fld (pv 0) rfl) (po_some (pe_op op_add (pv 1) pe_int)) po_none)) rfl)
      (pss_cons (ps_fld (pv 0) (pe_cd G_grown (hr.mono (by decide)) pass0 (pa_cons (pe_fld (pv 0) rfl) (pa_cons (pe_fld (pv 0) rfl) (pa_cons (pv 3) pa_nil)))) rfl)
      (pss_one (ps_ret (pv 2)))))))))), ?_⟩
    have elw : (((vts ws).length : Nat) : Int) = (ws.length : Nat) := by rw [List.length_map]
    refine ⟨_, rfl, _, _, rfl, rfl, _, rfl, ?_⟩
    by_cases h0 : 0 ≤ i
    · rw [decide_eq_true h0]
      refine ⟨_, rfl, p, C, dx, _, _, rfl, ep, PG.cl, PG.nr, F.r, r, _, rfl, .inl (.of eR), _, _, rfl, rfl, _, rfl, tsn (c := i < (ws.length : Nat)) (by rw [elw]) (fun h1 => e1 fun z => h1 z.2) (fun h1 => ?_)⟩
      obtain ⟨j, rfl⟩ : ∃ j : Nat, i = (j : Int) := ⟨i.toNat, by omega⟩
      have hj : j < ws.length := by omega
      have hle := hb.le
      refine ⟨_, rfl, p, dx, fs, rfl, ep, F.no _ (by decide +kernel) (by decide +kernel) (by decide +kernel) (by decide +kernel), p, dx, r, t, q, fs, n, ps, rfl, ep, F, eq, hl, fun a na => ?_⟩
      have ap : a ≠ p := fun z => by rw [z, ep] at na; cases na
      have aq : a ≠ q := fun z => by rw [z, eq] at na; cases na
      have rp : r ≠ p := fun z => by rw [z, ep] at eR; cases eR
      have tp : t ≠ p := fun z => by rw [z, ep] at eT; cases eT
      have ep2 : (upd (upd H a (.tup [.ref r, .int n, .ref t])) q (.lst (ps ++ [.ref a]))) p = some (.ins C dx fs) := by rw [upd_ne pq, upd_ne (Ne.symm ap)]; exact ep
      have eq2 : (upd (upd H a (.tup [.ref r, .int n, .ref t])) q (.lst (ps ++ [.ref a]))) q = some (.lst (ps ++ [.ref a])) := upd_same
      have ea2 : (upd (upd H a (.tup [.ref r, .int n, .ref t])) q (.lst (ps ++ [.ref a]))) a = some (.tup [.ref r, .int n, .ref t]) := by rw [upd_ne aq, upd_same]
      have k2 : ∀ b o, b ≠ p → b ≠ q → H b = some o → (upd (upd H a (.tup [.ref r, .int n, .ref t])) q (.lst (ps ++ [.ref a]))) b = some o := fun b o _ h2 e => by
        rw [upd_ne h2]; exact kept e na
      have n2 : ∀ b, (upd (upd H a (.tup [.ref r, .int n, .ref t])) q (.lst (ps ++ [.ref a]))) b = none → H b = none := fun b e => by
        have h1 : b ≠ q := fun z => by rw [z, upd_same] at e; cases e
        rw [upd_ne h1] at e
        have h2 : b ≠ a := fun z => by rw [z, upd_same] at e; cases e
        rw [upd_ne h2] at e; exact e
      generalize upd (upd H a (.tup [.ref r, .int n, .ref t])) q (.lst (ps ++ [.ref a])) = H2 at ep2 eq2 ea2 k2 n2 ⊢
      have eR2 := k2 r _ rp rq eR
      have eT2 := k2 t _ tp tq eT
      refine ⟨_, rfl, p, C, dx, _, _, rfl, ep2, PG.cl, PG.nr, F.r, _, rfl, r, _, _, _, rfl, rfl, .of eR2, atI_nat (flat_get (List.getElem?_eq_getElem hj)), ?_⟩
      refine ⟨_, rfl, p, C, dx, _, _, rfl, ep2, PG.cl, PG.nt, F.t, _, rfl, _, _, rfl, rfl, ((j + 1 : Nat) : Int), rfl, t, _, rfl, .of eT2, fun u nu => ?_⟩
      have eu : cutV (vis xs) (some ((j + 1 : Nat) : Int)) none = vis (xs.drop (j + 1)) := cut_from V.int xs (j + 1)
      rw [eu]
      have s3 := (Same.refl H2).new (o := HO.lst (vis (xs.drop (j + 1)))) nu
      have eu3 : (upd H2 u (HO.lst (vis (xs.drop (j + 1))))) u = some (.lst (vis (xs.drop (j + 1)))) := upd_same
      generalize upd H2 u (HO.lst (vis (xs.drop (j + 1)))) = H3 at s3 eu3 ⊢
      refine ⟨_, rfl, p, C, dx, _, _, rfl, s3 _ _ ep2, PG.cl, PG.nr, F.r, _, rfl, (j : Nat), rfl, r, _, rfl, .of (s3 _ _ eR2), fun v nv => ?_⟩
      have ev : cutV (vts ws) none (some (j : Int)) = vts (ws.take j) := cut_to vt ws j
      rw [ev]
      have s4 := s3.new (o := HO.lst (vts (ws.take j))) nv
      have eu4 := kept eu3 nv (o := HO.lst (vts (ws.take j)))
      have ev4 : (upd H3 v (HO.lst (vts (ws.take j)))) v = some (.lst (vts (ws.take j))) := upd_same
      generalize upd H3 v (HO.lst (vts (ws.take j))) = H4 at s4 eu4 ev4 ⊢
      refine ⟨_, rfl, p, C, dx, _, _, rfl, s4 _ _ ep2, PG.cl, PG.nr, F.r, _, rfl, _, _, rfl, rfl, ((j + 1 : Nat) : Int), rfl, r, _, rfl, .of (s4 _ _ eR2), fun y ny => ?_⟩
      have ey : cutV (vts ws) (some ((j + 1 : Nat) : Int)) none = vts (ws.drop (j + 1)) := cut_from vt ws (j + 1)
      rw [ey]
      have s5 := s4.new (o := HO.lst (vts (ws.drop (j + 1)))) ny
      have eu5 := kept eu4 ny (o := HO.lst (vts (ws.drop (j + 1))))
      have ev5 := kept ev4 ny (o := HO.lst (vts (ws.drop (j + 1))))
      have ey5 : (upd H4 y (HO.lst (vts (ws.drop (j + 1))))) y = some (.lst (vts (ws.drop (j + 1)))) := upd_same
      generalize upd H4 y (HO.lst (vts (ws.drop (j + 1)))) = H5 at s5 eu5 ev5 ey5 ⊢
      refine ⟨v, y, _, _, rfl, rfl, ev5, ey5, sz (by rw [List.length_map, List.length_map, List.length_take, List.length_drop]; omega), fun r' nr' => ?_⟩
      rw [show vts (ws.take j) ++ vts (ws.drop (j + 1)) = vts (ws.take j ++ ws.drop (j + 1)) from List.map_append.symm]
      have h1' := h1
      have hls : (ws.take j ++ ws.drop (j + 1)).length = ws.length - 1 := by rw [List.length_append, List.length_take, List.length_drop]; omega
      have s6 := s5.new (o := HO.lst (vts (ws.take j ++ ws.drop (j + 1)))) nr'
      have eu6 := kept eu5 nr' (o := HO.lst (vts (ws.take j ++ ws.drop (j + 1))))
      have er6 : (upd H5 r' (HO.lst (vts (ws.take j ++ ws.drop (j + 1))))) r' = some (.lst (vts (ws.take j ++ ws.drop (j + 1)))) := upd_same
      have fr : H2 r' = none := s5.free nr'
      have fu : H2 u = none := nu
      generalize upd H5 r' (HO.lst (vts (ws.take j ++ ws.drop (j + 1)))) = H6 at s6 eu6 er6 ⊢
      have ep6 := s6 _ _ ep2
      have rp' : r' ≠ p := fun z => by rw [z, ep2] at fr; cases fr
      have up' : u ≠ p := fun z => by rw [z, ep2] at fu; cases fu
      have rq' : r' ≠ q := fun z => by rw [z, eq2] at fr; cases fr
      refine ⟨_, rfl, p, C, dx, fs, rfl, ep6, PG.cl, PG.nr, by rw [F.len]; decide, ?_⟩
      have F7 := F.setR r'
      have ep7 : (upd H6 p (.ins C dx (putF "row" (.ref r') fs))) p = some (.ins C dx (putF "row" (.ref r') fs)) := upd_same
      have k7 : ∀ b o, b ≠ p → H6 b = some o → (upd H6 p (.ins C dx (putF "row" (.ref r') fs))) b = some o := fun b o h e => by rw [upd_ne h]; exact e
      have n7 : ∀ b, (upd H6 p (.ins C dx (putF "row" (.ref r') fs))) b = none → H6 b = none := fun b e => by
        have h1 : b ≠ p := fun z => by rw [z, upd_same] at e; cases e
        rw [upd_ne h1] at e; exact e
      generalize upd H6 p (.ins C dx (putF "row" (.ref r') fs)) = H7 at ep7 k7 n7 ⊢
      refine ⟨_, rfl, p, C, dx, _, _, rfl, ep7, PG.cl, PG.nr, F7.r, _, rfl, p, C, dx, _, _, rfl, ep7, PG.cl, PG.nw, F7.w, _, rfl, ?_⟩
      have hb' : Bw (ws.take j ++ ws.drop (j + 1)) := hb.cutOut j
      have ft' : Ft (ws.take j ++ ws.drop (j + 1)) n := ⟨ft.1, fun x hx => by
        rcases List.mem_append.mp hx with h | h
        · exact ft.2 x (List.mem_of_mem_take h)
        · exact ft.2 x (List.mem_of_mem_drop h)⟩
      have hc' : (ws.take j ++ ws.drop (j + 1)).length + 1 - (xs.drop (j + 1)).length = j := by rw [List.length_drop]; omega
      refine ⟨r', u, ws.take j ++ ws.drop (j + 1), n, xs.drop (j + 1), rfl, .of (k7 _ _ rp' er6), k7 _ _ up' eu6, hb', hn, ft', by rw [List.length_drop]; omega, by rw [List.length_drop]; omega, ?_, fun H8 o xs' s8 no eo xl' ht _ => ?_⟩
      · rw [hc']
        refine tail_ok tab (by omega) (by omega) ?_
        rw [List.drop_append_of_le_length (by rw [List.length_take]; omega), List.drop_eq_nil_of_le (by rw [List.length_take]; omega)]; rfl
      have no6 := n7 _ no
      have no2 := s6.free no6
      have op : o ≠ p := fun z => by rw [z, ep2] at no2; cases no2
      have oq : o ≠ q := fun z => by rw [z, eq2] at no2; cases no2
      refine ⟨_, rfl, p, C, dx, _, rfl, s8 _ _ ep7, PG.cl, PG.nt, by rw [F7.len]; decide, ?_⟩
      refine ⟨_, rfl, ?_⟩
      refine k j hj rfl _ _ r' o a xs' (F7.setT o) upd_same ?_ na ?_ (n2 _ fr) ?_ (n2 _ no2) ?_ (by omega) ht fun b o' h1 h2 e => ?_
      · rw [upd_ne (Ne.symm pq)]; exact s8 _ _ (k7 q _ (Ne.symm pq) (s6 _ _ eq2))
      · rw [upd_ne ap]; exact s8 _ _ (k7 a _ ap (s6 _ _ ea2))
      · rw [upd_ne rp']; exact s8 _ _ (k7 r' _ rp' er6)
      · rw [upd_ne op]; exact eo
      · rw [upd_ne h1]; exact s8 _ _ (k7 b _ h1 (s6 _ _ (k2 b _ h1 h2 e)))
    · rw [decide_eq_false h0]
      refine iteF ?_
      exact ⟨_, rfl, iteT (e1 fun z => h0 z.1)⟩

def sp_Page_widen (K : PySem.W.Frag) (ea : EA) (C : Addr) : Sp := fun vs H Q E => ∃ (p dx r t q : Addr) (fs : List (Str × V)) (n m : Int) (ws : List (List Nat)) (ps : List V), vs = [.ref p, .int m] ∧ H p = some (.ins C dx fs) ∧ PgF fs n r t q ∧ H r = some (.lst (vts ws)) ∧ r ≠ q ∧ H q = some (.lst ps) ∧ ps.length < 1000000 ∧ p ≠ q ∧
  Bw ws ∧ Wb m ∧ (m < 1 → E (.ref ea.nw) none H) ∧ (1 ≤ m → m < (longest ws : Nat) → E (.ref ea.lw) none H) ∧
  (Ft ws m → ∀ H' fs' t' a xs, PgF fs' m r t' q → H' p = some (.ins C dx fs') → H' q = some (.lst (ps ++ [.ref a])) → H a = none → H' a = some (.tup [.ref r, .int n, .ref t]) → H t' = none → H' t' = some (.lst (vis xs)) → xs.length = ws.length + 1 → Tab ws m (tb xs) →
    (∀ b o, b ≠ p → b ≠ q → H b = some o → H' b = some o) → Q .non H')
theorem ok_Page_widen {C : Addr} {ea : EA} (A : AtM K C "widen" "Page.widen" ["self", "width"] st_Page_widen) (T : Bts mg) (PG : PgC K C) (G_need_fits : Ok P w K mg base (CXn P w) 3 "need_fits" ["words", "width"] (sp_need_fits K ea))
    (G_grown : Ok P w K mg base CX0 4 "grown" ["words", "width", "tail"] (sp_grown K)) (G_Page_keep : OkM P w K mg base CX0 1 C "keep" ["self"] (sp_Page_keep C)) :
    OkM P w K mg base (CXn P w) 5 C "widen" ["self", "width"] (sp_Page_widen K ea C) := by
  refine A.okX sc_Page_widen (fun vs H Q E h => ?_) (fun f cdv A outer s H vs Q E hr h => ?_)
  · obtain ⟨p, dx, r, t, q, fs, n, m, ws, ps, rfl, _⟩ := h; rfl
  · obtain ⟨p, dx, r, t, q, fs, n, m, ws, ps, rfl, ep, F, eR, rq, eq, hl, pq, hb, hm, e1, e2, k⟩ := h
    refine ⟨_, (pss_cons (ps_expr (pe_cd G_need_fits (hr.mono (by decide)) passR (pa_cons (pe_fld (pv 0) rfl) (pa_cons (pv 1) pa_nil))))
      (PSs.nox (pss_cons (ps_expr (pe_md0 (pv 0) PG.cl G_Page_keep (hr.mono (by decide)) pass0))
      (pss_cons (ps_fld (pv 0) (pv 1) rfl)
      (pss_one (ps_fld (pv 0) (pe_cd G_grown (hr.mono (by decide)) pass0 (pa_cons (pe_fld (pv 0) rfl) (pa_cons (pv 1) (pa_cons (pe_lst (pa_cons pe_int pa_nil)) pa_nil)))) rfl)))))), ?_⟩
    refine ⟨_, rfl, p, C, dx, _, _, rfl, ep, PG.cl, PG.nr, F.r, _, rfl, r, ws, m, rfl, .of eR, hb, e1, e2, fun ft => ?_⟩
    refine ⟨_, rfl, p, dx, fs, rfl, ep, F.no _ (by decide +kernel) (by decide +kernel) (by decide +kernel) (by decide +kernel), p, dx, r, t, q, fs, n, ps, rfl, ep, F, eq, hl, fun a na => ?_⟩
    have ap : a ≠ p := fun z => by rw [z, ep] at na; cases na
    have aq : a ≠ q := fun z => by rw [z, eq] at na; cases na
    have rp : r ≠ p := fun z => by rw [z, ep] at eR; cases eR
    have ar : a ≠ r := fun z => by rw [z, eR] at na; cases na
    have ep2 : (upd (upd H a (.tup [.ref r, .int n, .ref t])) q (.lst (ps ++ [.ref a]))) p = some (.ins C dx fs) := by rw [upd_ne pq, upd_ne (Ne.symm ap)]; exact ep
    have eq2 : (upd (upd H a (.tup [.ref r, .int n, .ref t])) q (.lst (ps ++ [.ref a]))) q = some (.lst (ps ++ [.ref a])) := upd_same
    have ea2 : (upd (upd H a (.tup [.ref r, .int n, .ref t])) q (.lst (ps ++ [.ref a]))) a = some (.tup [.ref r, .int n, .ref t]) := by rw [upd_ne aq, upd_same]
    have k2 : ∀ b o, b ≠ p → b ≠ q → H b = some o → (upd (upd H a (.tup [.ref r, .int n, .ref t])) q (.lst (ps ++ [.ref a]))) b = some o := fun b o _ h2 e => by
      rw [upd_ne h2]; exact kept e na
    have n2 : ∀ b, (upd (upd H a (.tup [.ref r, .int n, .ref t])) q (.lst (ps ++ [.ref a]))) b = none → H b = none := fun b e => by
      have h1 : b ≠ q := fun z => by rw [z, upd_same] at e; cases e
      rw [upd_ne h1] at e
      have h2 : b ≠ a := fun z => by rw [z, upd_same] at e; cases e
      rw [upd_ne h2] at e; exact e
    generalize upd (upd H a (.tup [.ref r, .int n, .ref t])) q (.lst (ps ++ [.ref a])) = H2 at ep2 eq2 ea2 k2 n2 ⊢
    refine ⟨_, rfl, _, rfl, p, C, dx, fs, rfl, ep2, PG.cl, PG.nw, by rw [F.len]; decide, ?_⟩
    have F3 := F.setW m
    have ep3 : (upd H2 p (.ins C dx (putF "width" (.int m) fs))) p = some (.ins C dx (putF "width" (.int m) fs)) := upd_same
    have k3 : ∀ b o, b ≠ p → H2 b = some o → (upd H2 p (.ins C dx (putF "width" (.int m) fs))) b = some o := fun b o h e => by rw [upd_ne h]; exact e
    have n3 : ∀ b, (upd H2 p (.ins C dx (putF "width" (.int m) fs))) b = none → H2 b = none := fun b e => by
      have h1 : b ≠ p := fun z => by rw [z, upd_same] at e; cases e
      rw [upd_ne h1] at e; exact e
    generalize upd H2 p (.ins C dx (putF "width" (.int m) fs)) = H3 at ep3 k3 n3 ⊢
    have eR3 := k3 r _ rp (k2 r _ rp rq eR)
    refine ⟨_, rfl, p, C, dx, _, _, rfl, ep3, PG.cl, PG.nr, F3.r, _, rfl, sz (by simp), fun d nd => ?_⟩
    have s4 := (Same.refl H3).new (o := HO.lst [V.int 0]) nd
    refine ⟨r, d, ws, m, [0], rfl, .of (s4 _ _ eR3), upd_same, hb, hm, ft, Nat.le_refl _, by simp, ⟨?_, fun x h1 h2 => ?_⟩, fun H5 o xs s5 no eo xl ht _ => ?_⟩
    · unfold tb
      rw [List.getD_eq_getElem?_getD, List.getElem?_append_right (by simp)]; simp
    · simp at h1; omega
    have s35 := s4.trans s5
    have no3 := s4.free no
    have op : o ≠ p := fun z => by rw [z, ep3] at no3; cases no3
    have oq : o ≠ q := fun z => by rw [z, k3 q _ (Ne.symm pq) eq2] at no3; cases no3
    refine ⟨_, rfl, p, C, dx, _, rfl, s35 _ _ ep3, PG.cl, PG.nt, by rw [F3.len]; decide, ?_⟩
    refine k ft _ _ o a xs (F3.setT o) upd_same ?_ na ?_ (n2 _ (n3 _ no3)) ?_ xl ht fun b o' h1 h2 e => ?_
    · rw [upd_ne (Ne.symm pq)]; exact s35 _ _ (k3 q _ (Ne.symm pq) eq2)
    · rw [upd_ne ap]; exact s35 _ _ (k3 a _ ap ea2)
    · rw [upd_ne op]; exact eo
    · rw [upd_ne h1]; exact s35 _ _ (k3 b _ h1 (k2 b _ h1 h2 e))

def sp_Page_undo (ea : EA) (C : Addr) : Sp := fun vs H Q E => ∃ (p dx r t q : Addr) (fs : List (Str × V)) (n : Int) (ps : List V), vs = [.ref p] ∧ H p = some (.ins C dx fs) ∧ PgF fs n r t q ∧ H q = some (.lst ps) ∧ p ≠ q ∧
  (ps = [] → ∀ H', Same H H' → E (.ref ea.nb) none H') ∧
  (ps ≠ [] → ∃ qs a r' m t', ps = qs ++ [.ref a] ∧ H a = some (.tup [.ref r', .int m, .ref t']) ∧ ∀ H' fs', PgF fs' m r' t' q → H' p = some (.ins C dx fs') → H' q = some (.lst qs) →
    (∀ b o, b ≠ p → b ≠ q → H b = some o → H' b = some o) → Q .non H')
theorem ok_Page_undo {C : Addr} {ea : EA} (A : AtM K C "undo" "Page.undo" ["self"] st_Page_undo) (T : Bts mg) (X : Xs K mg ea) (PG : PgC K C) :
    OkM P w K mg base (CXn P w) 1 C "undo" ["self"] (sp_Page_undo ea C) := by
  refine A.okX sc_Page_undo (fun vs H Q E h => ?_) (fun f cdv A outer s H vs Q E hr h => ?_)
  · obtain ⟨p, dx, r, t, q, fs, n, ps, rfl, _⟩ := h; rfl
  · obtain ⟨p, dx, r, t, q, fs, n, ps, rfl, ep, F, eq, pq, e1, k⟩ := h
    refine ⟨_, (pss_cons (ps_if (pt_cmpR (op_eqE hr) (pe_fld (pv 0) rfl) (pe_lst pa_nil) (nomark _)) (pss_one (L2N.ps_raise rfl (L2N.takes_of rfl rfl rfl rfl) (X.c_NoWayBack.mk_raise (by rfl)))) pss_nil)
      (PSs.nox (pss_cons (ps_set (i := 1) sc_Page_undo.nd rfl (Or.inl rfl) (pe_bm0 PySem.F.plainAttrs_list PySem.F.slot_list_pop PySem.F.type_list_pop mt_pop (pe_fld (pv 0) rfl)))
      (pss_cons (ps_fld (pv 0) (pe_ix (ix_tupK K) (pv 1) pe_int (fun _ _ => rfl)) rfl)
      (pss_cons (ps_fld (pv 0) (pe_ix (ix_tupK K) (pv 1) pe_int (fun _ _ => rfl)) rfl)
      (pss_one (ps_fld (pv 0) (pe_ix (ix_tupK K) (pv 1) pe_int (fun _ _ => rfl)) rfl))))))), ?_⟩
    refine ⟨_, rfl, p, C, dx, _, _, rfl, ep, PG.cl, PG.np, F.q, sz (by simp), fun e ne => ?_⟩
    refine ⟨q, e, ps, rfl, rfl, .of (kept eq ne), .of upd_same, _, rfl, tst (c := ps.length = 0) rfl (fun h0 => e1 (List.eq_nil_of_length_eq_zero h0) _ ((Same.refl H).new ne)) (fun h0 => ?_)⟩
    obtain ⟨qs, a, r', m, t', rfl, ea', k⟩ := k fun z => h0 (by rw [z]; rfl)
    have s1 := (Same.refl H).new (o := HO.lst []) ne
    generalize upd H e (HO.lst []) = H1 at s1 ⊢
    have ap : a ≠ p := fun z => by rw [z, ep] at ea'; cases ea'
    have aq : a ≠ q := fun z => by rw [z, eq] at ea'; cases ea'
    refine ⟨_, rfl, p, C, dx, _, _, rfl, s1 _ _ ep, PG.cl, PG.np, F.q, .inl ⟨rfl, _, .of (s1 _ _ eq)⟩, q, _, .ref a, rfl, rfl, s1 _ _ eq, by simp, ?_⟩
    rw [List.dropLast_concat]
    have ep2 : (upd H1 q (.lst qs)) p = some (.ins C dx fs) := by rw [upd_ne pq]; exact s1 _ _ ep
    have eq2 : (upd H1 q (.lst qs)) q = some (.lst qs) := upd_same
    have k2 : ∀ b o, b ≠ p → b ≠ q → H b = some o → (upd H1 q (.lst qs)) b = some o := fun b o _ h2 e => by rw [upd_ne h2]; exact s1 _ _ e
    generalize upd H1 q (.lst qs) = H2 at ep2 eq2 k2 ⊢
    refine ⟨_, rfl, a, _, ((0 : Nat) : Int), _, rfl, rfl, .of (k2 _ _ ap aq ea'), rfl, _, rfl, p, C, dx, fs, rfl, ep2, PG.cl, PG.nr, by rw [F.len]; decide, ?_⟩
    have F3 := F.setR r'
    have ep3 : (upd H2 p (.ins C dx (putF "row" (.ref r') fs))) p = some (.ins C dx (putF "row" (.ref r') fs)) := upd_same
    have k3 : ∀ b o, b ≠ p → H2 b = some o → (upd H2 p (.ins C dx (putF "row" (.ref r') fs))) b = some o := fun b o h e => by rw [upd_ne h]; exact e
    generalize upd H2 p (.ins C dx (putF "row" (.ref r') fs)) = H3 at ep3 k3 ⊢
    refine ⟨_, rfl, a, _, ((1 : Nat) : Int), _, rfl, rfl, .of (k3 _ _ ap (k2 _ _ ap aq ea')), rfl, _, rfl, p, C, dx, _, rfl, ep3, PG.cl, PG.nw, by rw [F3.len]; decide, ?_⟩
    have F4 := F3.setW m
    generalize putF "row" (.ref r') fs = fs3 at ep3 F3 F4 ⊢
    have ep4 : (upd H3 p (.ins C dx (putF "width" (.int m) fs3))) p = some (.ins C dx (putF "width" (.int m) fs3)) := upd_same
    have k4 : ∀ b o, b ≠ p → H3 b = some o → (upd H3 p (.ins C dx (putF "width" (.int m) fs3))) b = some o := fun b o h e => by rw [upd_ne h]; exact e
    generalize upd H3 p (.ins C dx (putF "width" (.int m) fs3)) = H4 at ep4 k4 ⊢
    refine ⟨_, rfl, a, _, ((2 : Nat) : Int), _, rfl, rfl, .of (k4 _ _ ap (k3 _ _ ap (k2 _ _ ap aq ea'))), rfl, _, rfl, p, C, dx, _, rfl, ep4, PG.cl, PG.nt, by rw [F4.len]; decide, ?_⟩
    refine k _ _ (F4.setT t') upd_same ?_ fun b o h1 h2 e => ?_
    · rw [upd_ne (Ne.symm pq)]; exact k4 _ _ (Ne.symm pq) (k3 _ _ (Ne.symm pq) eq2)
    · rw [upd_ne h1]; exact k4 _ _ h1 (k3 _ _ h1 (k2 _ _ h1 h2 e))

def sp_Page_words_now (K : PySem.W.Frag) (C : Addr) : Sp := fun vs H Q _ => ∃ (p dx r t q : Addr) (fs : List (Str × V)) (n : Int) (ws : List (List Nat)), vs = [.ref p] ∧ H p = some (.ins C dx fs) ∧ PgF fs n r t q ∧ SqL K H r (vts ws) ∧
  ∀ a, H a = none → Q (.ref a) (upd H a (.lst (vts ws)))
theorem ok_Page_words_now {C : Addr} (A : AtM K C "words_now" "Page.words_now" ["self"] st_Page_words_now) (T : Bts mg) (PG : PgC K C) : OkM P w K mg base CX0 1 C "words_now" ["self"] (sp_Page_words_now K C) := by
  refine A.ok sc_Page_words_now (fun vs H Q E h => ?_) (fun f cdv A outer s H vs Q E hr h => ?_)
  · obtain ⟨p, dx, r, t, q, fs, n, ws, rfl, _⟩ := h; rfl
  · obtain ⟨p, dx, r, t, q, fs, n, ws, rfl, ep, F, hS, k⟩ := h
    refine ⟨_, (pss_one (ps_ret (pe_callTy call_list_of (by rfl) T.m_list (by decide +kernel) (pa_cons (pe_fld (pv 0) rfl) pa_nil)))), ?_⟩
    exact ⟨_, rfl, p, C, dx, _, _, rfl, ep, PG.cl, PG.nr, F.r, r, _, rfl, .inl hS, k⟩

def sp_Page_width_now (C : Addr) : Sp := fun vs H Q _ => ∃ (p dx r t q : Addr) (fs : List (Str × V)) (n : Int), vs = [.ref p] ∧ H p = some (.ins C dx fs) ∧ PgF fs n r t q ∧ Q (.int n) H
theorem ok_Page_width_now {C : Addr} (A : AtM K C "width_now" "Page.width_now" ["self"] st_Page_width_now) (T : Bts mg) (PG : PgC K C) : OkM P w K mg base CX0 1 C "width_now" ["self"] (sp_Page_width_now C) := by
  refine A.ok sc_Page_width_now (fun vs H Q E h => ?_) (fun f cdv A outer s H vs Q E hr h => ?_)
  · obtain ⟨p, dx, r, t, q, fs, n, rfl, _⟩ := h; rfl
  · obtain ⟨p, dx, r, t, q, fs, n, rfl, ep, F, k⟩ := h
    refine ⟨_, (pss_one (ps_ret (pe_fld (pv 0) rfl))), ?_⟩
    exact ⟨_, rfl, p, C, dx, _, _, rfl, ep, PG.cl, PG.nw, F.w, k⟩

def sp_Page_table_now (K : PySem.W.Frag) (C : Addr) : Sp := fun vs H Q _ => ∃ (p dx r t q : Addr) (fs : List (Str × V)) (n : Int) (xs : List Int), vs = [.ref p] ∧ H p = some (.ins C dx fs) ∧ PgF fs n r t q ∧ SqL K H t (vis xs) ∧
  ∀ a, H a = none → Q (.ref a) (upd H a (.lst (vis xs)))
theorem ok_Page_table_now {C : Addr} (A : AtM K C "table_now" "Page.table_now" ["self"] st_Page_table_now) (T : Bts mg) (PG : PgC K C) : OkM P w K mg base CX0 1 C "table_now" ["self"] (sp_Page_table_now K C) := by
  refine A.ok sc_Page_table_now (fun vs H Q E h => ?_) (fun f cdv A outer s H vs Q E hr h => ?_)
  · obtain ⟨p, dx, r, t, q, fs, n, xs, rfl, _⟩ := h; rfl
  · obtain ⟨p, dx, r, t, q, fs, n, xs, rfl, ep, F, hS, k⟩ := h
    refine ⟨_, (pss_one (ps_ret (pe_callTy call_list_of (by rfl) T.m_list (by decide +kernel) (pa_cons (pe_fld (pv 0) rfl) pa_nil)))), ?_⟩
    exact ⟨_, rfl, p, C, dx, _, _, rfl, ep, PG.cl, PG.nt, F.t, t, _, rfl, .inl hS, k⟩

def sp_Page_starts_now (K : PySem.W.Frag) (C : Addr) : Sp := fun vs H Q _ => ∃ (p dx r t q : Addr) (fs : List (Str × V)) (n : Int) (ws : List (List Nat)) (xs : List Int), vs = [.ref p] ∧ H p = some (.ins C dx fs) ∧ PgF fs n r t q ∧ SqL K H r (vts ws) ∧ SqL K H t (vis xs) ∧
  Bw ws ∧ Wb n ∧ Ft ws n ∧ xs.length = ws.length + 1 ∧ ∀ H' o ks, Same H H' → H o = none → H' o = some (.lst (vis (toI ks))) → Bc ws n (tb xs) 0 ks → Q (.ref o) H'
theorem ok_Page_starts_now {C : Addr} (A : AtM K C "starts_now" "Page.starts_now" ["self"] st_Page_starts_now) (T : Bts mg) (PG : PgC K C) (G_starts_by : Ok P w K mg base CX0 4 "starts_by" ["words", "width", "table"] (sp_starts_by K)) :
    OkM P w K mg base CX0 5 C "starts_now" ["self"] (sp_Page_starts_now K C) := by
  refine A.ok sc_Page_starts_now (fun vs H Q E h => ?_) (fun f cdv A outer s H vs Q E hr h => ?_)
  · obtain ⟨p, dx, r, t, q, fs, n, ws, xs, rfl, _⟩ := h; rfl
  · obtain ⟨p, dx, r, t, q, fs, n, ws, xs, rfl, ep, F, hR, hT, hb, hn, ft, hl, k⟩ := h
    refine ⟨_, (pss_one (ps_ret (pe_cd G_starts_by (hr.mono (by decide)) pass0 (pa_cons (pe_fld (pv 0) rfl) (pa_cons (pe_fld (pv 0) rfl) (pa_cons (pe_fld (pv 0) rfl) pa_nil)))))), ?_⟩
    exact ⟨_, rfl, p, C, dx, _, _, rfl, ep, PG.cl, PG.nr, F.r, _, rfl, p, C, dx, _, _, rfl, ep, PG.cl, PG.nw, F.w, _, rfl, p, C, dx, _, _, rfl, ep, PG.cl, PG.nt, F.t, r, t, ws, n, xs, rfl, hR, hT, hb, hn, ft, hl, k⟩

def sp_Page_lines_now (K : PySem.W.Frag) (C : Addr) : Sp := fun vs H Q _ => ∃ (p dx r t q : Addr) (fs : List (Str × V)) (n : Int) (ws : List (List Nat)) (xs : List Int), vs = [.ref p] ∧ H p = some (.ins C dx fs) ∧ PgF fs n r t q ∧ SqL K H r (vts ws) ∧ SqL K H t (vis xs) ∧
  Bw ws ∧ Wb n ∧ Ft ws n ∧ xs.length = ws.length + 1 ∧ ∀ H' o ks, Same H H' → H o = none → H' o = some (.lst (vts (lns ws ks))) → Bc ws n (tb xs) 0 ks → Q (.ref o) H'
theorem ok_Page_lines_now {C : Addr} {ea : EA} (A : AtM K C "lines_now" "Page.lines_now" ["self"] st_Page_lines_now) (T : Bts mg) (PG : PgC K C) (G_lines_of : Ok P w K mg base (CXn P w) 3 "lines_of" ["words", "starts"] (sp_lines_of K ea))
    (G_Page_starts_now : OkM P w K mg base CX0 5 C "starts_now" ["self"] (sp_Page_starts_now K C)) :
    OkM P w K mg base (CXn P w) 6 C "lines_now" ["self"] (sp_Page_lines_now K C) := by
  refine A.okX sc_Page_lines_now (fun vs H Q E h => ?_) (fun f cdv A outer s H vs Q E hr h => ?_)
  · obtain ⟨p, dx, r, t, q, fs, n, ws, xs, rfl, _⟩ := h; rfl
  · obtain ⟨p, dx, r, t, q, fs, n, ws, xs, rfl, ep, F, hR, hT, hb, hn, ft, hl, k⟩ := h
    refine ⟨_, (pss_one (ps_ret (pe_cd G_lines_of (hr.mono (by decide)) passR (pa_cons (pe_fld (pv 0) rfl) (pa_cons (pe_md0 (pv 0) PG.cl G_Page_starts_now (hr.mono (by decide)) pass0) pa_nil))))), ?_⟩
    have hle := hb.le
    refine ⟨_, rfl, p, C, dx, _, _, rfl, ep, PG.cl, PG.nr, F.r, _, rfl, p, dx, fs, rfl, ep, F.no _ (by decide +kernel) (by decide +kernel) (by decide +kernel) (by decide +kernel), p, dx, r, t, q, fs, n, ws, xs, rfl, ep, F, hR, hT, hb, hn, ft, hl, fun H1 o ks s1 no eo hbc => ?_⟩
    have hc := hbc.fc.ch
    have := hc.len
    refine ⟨r, o, ws, toI ks, rfl, s1.seq hR, .of eo, hb, by rw [toI_length]; omega, fun z => absurd ⟨ks, rfl, hc⟩ z, fun ks' H2 o2 es hc2 s2 no2 eo2 => ?_⟩
    have := toI_inj es
    subst this
    exact k H2 o2 ks (s1.trans s2) (s1.free no2) eo2 hbc

def cell (ns : List Int) (k : Nat) : Int := ns.getD k 0
def sp__law_cell_at (K : PySem.W.Frag) : Sp := fun vs H Q _ => ∃ (a : Addr) (ns : List Int) (k : Nat), vs = [.ref a, .int k] ∧ SqL K H a (vis ns) ∧ Q (.int (cell ns k)) H
theorem ok__law_cell_at (A : At K mg "_law_cell_at" ["_law_script", "_law_k"] st__law_cell_at) (T : Bts mg) : Ok P w K mg base CX0 1 "_law_cell_at" ["_law_script", "_law_k"] (sp__law_cell_at K) := by
  refine A.ok sc__law_cell_at (fun vs H Q E h => ?_) (fun f cdv A outer s H vs Q E hr h => ?_)
  · obtain ⟨a, ns, k, rfl, _⟩ := h; rfl
  · obtain ⟨a, ns, k, rfl, hS, q⟩ := h
    refine ⟨_, (pss_cons (ps_if (pt_cmpR op_lt (pv 1) (pe_callB (call_lenK K) (by rfl) T.m_len PySem.boot_len (pa_cons (pv 0) pa_nil)) (nomark _)) (pss_one (ps_ret (pe_ix (ix_listK K) (pv 0) (pv 1) (fun _ _ => rfl)))) pss_nil)
      (pss_one (ps_ret pe_int))), ?_⟩
    refine ⟨_, rfl, _, rfl, a, _, rfl, .inl hS, _, _, rfl, rfl, _, rfl, tst (c := k < ns.length) ?_ (fun n => ?_) (fun n => ?_)⟩
    · rw [List.length_map]
      by_cases e : k < ns.length
      · rw [decide_eq_true e, decide_eq_true (by omega)]
      · rw [decide_eq_false e, decide_eq_false (by omega)]
    · refine ⟨_, rfl, _, rfl, a, _, _, _, rfl, rfl, hS, atI_nat (flat_get (List.getElem?_eq_getElem n)), ?_⟩
      have e : cell ns k = ns[k] := by
        unfold cell
        rw [List.getD_eq_getElem?_getD, List.getElem?_eq_getElem n]; rfl
      rw [e] at q; exact q
    · have e : cell ns k = 0 := by
        unfold cell
        rw [List.getD_eq_getElem?_getD, List.getElem?_eq_none (by omega)]; rfl
      rw [e] at q
      exact q

def signs : List Nat := [33, 34, 35, 36, 38, 39, 40, 41, 42, 43, 44, 45, 46, 47, 48, 49, 50, 51, 52, 53, 54, 55, 56, 57, 58, 59, 60, 61, 62, 63, 64, 65, 66, 67, 68, 69, 70, 71, 72, 73, 74, 75, 76, 77, 78, 79, 80, 81, 82, 83, 84, 85, 86, 87, 88, 89, 90, 91, 92, 93, 94, 95, 96]
def signs2 : List Nat := [97, 98, 99, 100, 101, 102, 103, 104, 105, 106, 107, 108, 109, 110, 111, 112, 113, 114, 115, 116, 117, 118, 119, 120, 121, 122, 123, 124, 125, 126]
def sign (n : Int) : Nat := (signs ++ signs2).getD (n % 93).toNat 33
theorem lit_signs : PySem.Str.ofString "!\"#$&'()*+,-./0123456789:;<=>?@ABCDEFGHIJKLMNOPQRSTUVWXYZ[\\]^_`" = tx signs := by decide +kernel
theorem lit_signs2 : PySem.Str.ofString "abcdefghijklmnopqrstuvwxyz{|}~" = tx signs2 := by decide +kernel
theorem sign_in (n : Int) : 33 ≤ sign n ∧ sign n ≤ 126 := by
  have h : ∀ k : Nat, k < 93 → 33 ≤ (signs ++ signs2).getD k 33 ∧ (signs ++ signs2).getD k 33 ≤ 126 := by decide +kernel
  exact h _ (by omega)
def sp__law_sign_by : Sp := fun vs H Q _ => ∃ n : Int, vs = [.int n] ∧ Q (vt [sign n]) H
theorem ok__law_sign_by (A : At K mg "_law_sign_by" ["_law_cell"] st__law_sign_by) (T : Bts mg) : Ok P w K mg base CX0 1 "_law_sign_by" ["_law_cell"] sp__law_sign_by := by
  refine A.ok sc__law_sign_by (fun vs H Q E h => ?_) (fun f cdv A outer s H vs Q E hr h => ?_)
  · obtain ⟨n, rfl, _⟩ := h; rfl
  · obtain ⟨n, rfl, q⟩ := h
    refine ⟨_, (pss_cons (ps_set (i := 1) sc__law_sign_by.nd rfl (Or.inl rfl) pe_str)
      (pss_cons (ps_set (i := 1) sc__law_sign_by.nd rfl (Or.inl rfl) (pe_op op_add_str (pv 1) pe_str))
      (pss_one (ps_ret (pe_ix ix_str (pv 1) (pe_op op_mod (pv 0) pe_int) (fun _ _ => rfl)))))), ?_⟩
    refine ⟨_, rfl, _, _, rfl, rfl, ?_, ?_⟩
    · rw [lit_signs, lit_signs2]; exact sz (by decide)
    · refine ⟨_, rfl, _, rfl, _, _, rfl, rfl, (show (0 : Int) < 93 by decide), tx (signs ++ signs2), n % 93, sign n, ?_, rfl, ?_, ?_, ?_⟩
      · rw [lit_signs, lit_signs2, tx_app]
      · rw [tx_len]; exact sz (by decide)
      · rw [tx_list, show n % 93 = ((n % 93).toNat : Nat) by omega]
        refine atI_nat ?_
        unfold sign
        rw [List.getD_eq_getElem?_getD]
        have h : (n % 93).toNat < (signs ++ signs2).length := by
          have : (signs ++ signs2).length = 93 := rfl
          omega
        rw [List.getElem?_eq_getElem h]; rfl
      · exact q

def sp__law_word_by : Sp := fun vs H Q _ => ∃ n : Int, vs = [.int n] ∧ ∀ H' w, Same H H' → Wd w → Q (vt w) H'
theorem ok__law_word_by (A : At K mg "_law_word_by" ["_law_cell"] st__law_word_by) (T : Bts mg) (G__law_sign_by : Ok P w K mg base CX0 1 "_law_sign_by" ["_law_cell"] sp__law_sign_by) :
    Ok P w K mg base CX0 2 "_law_word_by" ["_law_cell"] sp__law_word_by := by
  refine A.ok sc__law_word_by (fun vs H Q E h => ?_) (fun f cdv A outer s H vs Q E hr h => ?_)
  · obtain ⟨n, rfl, _⟩ := h; rfl
  · obtain ⟨c, rfl, q⟩ := h
    refine ⟨_, (pss_cons (ps_set (i := 1) sc__law_word_by.nd rfl (Or.inl rfl) (pe_op op_add pe_int (pe_op op_mod (pv 0) pe_int)))
      (C8.pss_cut (ps_if (pt_cmpR op_eq (pe_op op_mod (pe_op op_fdiv (pv 0) pe_int) pe_int) pe_int (nomark _)) (pss_one (ps_set (i := 1) sc__law_word_by.nd rfl (Or.inl rfl) (pe_op op_add pe_int (pe_op op_mod (pe_op op_fdiv (pv 0) pe_int) pe_int)))) pss_nil)
      (C8.pss_cut (ps_if (pt_cmpR op_eq (pe_op op_mod (pe_op op_fdiv (pv 0) pe_int) pe_int) pe_int (nomark _)) (pss_one (ps_set (i := 1) sc__law_word_by.nd rfl (Or.inl rfl) (pe_op op_add pe_int (pe_op op_mod (pe_op op_fdiv (pv 0) pe_int) pe_int)))) pss_nil)
      (pss_one (ps_ret (pe_joinK K pe_str (pe_lc (own := [("_law_k", 2)]) (g := gName 2) (tt := tYes) rfl sc__law_word_by.nd (pi_range1 (by rfl) T.m_range (pa_cons (pv 1) pa_nil)) (blkOk_by (own := [("_law_k", 2)]) (N := N__law_word_by) (sc := defScope st__law_word_by) (by decide +kernel)) (fun _ _ _ _ _ => pg_name (i := 2) sc__law_word_by.nd rfl (Or.inl rfl)) (fun _ _ _ _ _ => pts_nil) (fun _ _ _ _ _ => (pe_cd G__law_sign_by (hr.mono (by decide)) pass0 (pa_cons (pe_op op_add (pe_op op_fdiv (pv 0) pe_int) (pe_op op_mul (pv 2) (pe_op op_add pe_int (pe_op op_mod (pv 0) pe_int)))) pa_nil)))))))))), ?_⟩
    refine ⟨_, rfl, _, _, rfl, rfl, (show (0 : Int) < 7 by decide), _, _, rfl, rfl, ?_⟩
    refine ⟨fun σ H' => H' = H ∧ ∃ n : Int, σ = [some (.int c), some (.int n), none] ∧ 1 ≤ n ∧ n ≤ 300, ?_, ?_⟩
    · refine ⟨_, rfl, _, _, rfl, rfl, ⟨by decide, by decide⟩, _, _, rfl, rfl, (show (0 : Int) < 9 by decide), rfl, _, rfl, tst (c := c / 7 % 9 = 1) dec_vi (fun n1 => ?_) (fun n1 => ?_)⟩
      · refine ⟨_, rfl, _, _, rfl, rfl, ⟨by decide, by decide⟩, _, _, rfl, rfl, (show (0 : Int) < 40 by decide), _, _, rfl, rfl, rfl, 1 + c / 63 % 40, rfl, by omega, by omega⟩
      · exact ⟨rfl, 1 + c % 7, rfl, by omega, by omega⟩
    rintro σ H' ⟨rfl, n, rfl, h1, h2⟩
    refine ⟨fun σ H1 => H1 = H' ∧ ∃ n : Int, σ = [some (.int c), some (.int n), none] ∧ 1 ≤ n ∧ n ≤ 300, ?_, ?_⟩
    · refine ⟨_, rfl, _, _, rfl, rfl, ⟨by decide, by decide⟩, _, _, rfl, rfl, (show (0 : Int) < 81 by decide), rfl, _, rfl, tst (c := c / 7 % 81 = 2) dec_vi (fun n1 => ?_) (fun n1 => ?_)⟩
      · refine ⟨_, rfl, _, _, rfl, rfl, ⟨by decide, by decide⟩, _, _, rfl, rfl, (show (0 : Int) < 300 by decide), _, _, rfl, rfl, rfl, 1 + c / 567 % 300, rfl, by omega, by omega⟩
      · exact ⟨rfl, n, rfl, by omega, by omega⟩
    rintro σ H1 ⟨rfl, n, rfl, h1, h2⟩
    refine ⟨⟨_, rfl⟩, _, rfl, n, rfl, by omega, by omega, fun D hD => ?_⟩
    refine lc_range (lo := 0) (n := n.toNat) (fun i H' => Same H1 H' ∧ ∃ ws, H' D = some (.lst (vts ws)) ∧ ws.length = i ∧ ∀ x ∈ ws, x.length = 1 ∧ ∀ c ∈ x, 33 ≤ c ∧ c ≤ 126) ?_ ?_ ?_
    · exact ⟨(Same.refl _).new hD, [], upd_same, rfl, fun _ z => nomatch z⟩
    · rintro i H' hi ⟨s5, ws, eD, e1, e2⟩
      refine ⟨rfl, ?_⟩
      refine ⟨_, rfl, _, _, rfl, rfl, ⟨by decide, by decide⟩, _, rfl, _, rfl, _, _, rfl, rfl, (show (0 : Int) < 5 by decide), _, _, rfl, rfl, _, _, rfl, rfl, .inr ⟨by omega, by omega⟩, _, _, rfl, rfl, _, rfl, ?_⟩
      have hs := sign_in (c / 3 + (0 + (i : Int)) * (1 + c % 5))
      generalize sign (c / 3 + (0 + (i : Int)) * (1 + c % 5)) = x at hs ⊢
      refine ⟨_, eD, by rw [List.length_map]; exact szl (by omega), s5.put hD, ws ++ [[x]], by rw [upd_same, vts_app], by simp [e1], ?_⟩
      intro y hy
      rcases List.mem_append.mp hy with z | z
      · exact e2 y z
      · rw [List.mem_singleton.mp z]
        exact ⟨rfl, fun c hc => by rw [List.mem_singleton.mp hc]; exact hs⟩
    · rintro H' ⟨s5, ws, eD, e1, e2⟩
      have hw := wd_flatten (ws := ws) (by omega) (by omega) e2
      refine ⟨_, D, ws.map tx, rfl, rfl, .inl (.of (by rw [eD, List.map_map]; rfl)), ?_, ?_⟩
      · rw [lit_nil, tx_len, List.map_map]
        have t1 : (ws.map ((fun x : Str => x.length) ∘ tx)).sum = ws.flatten.length := by
          rw [List.length_flatten]
          exact congrArg List.sum (List.map_congr_left fun x _ => tx_len x)
        have := hw.le
        rw [show (fun x : Str => x.length) ∘ tx = (fun x => (tx x).length) from rfl] at t1
        simp only [List.length_nil, Nat.mul_zero]
        rw [show (Str.length ∘ tx) = (fun x => (tx x).length) from rfl]
        omega
      · rw [lit_nil, join_tx, jn_nil]
        exact q H' _ s5 hw

def sp__law_whole : Sp := fun vs H Q _ => ∃ n : Int, vs = [.int n] ∧ Q (.bl true) H
theorem ok__law_whole (A : At K mg "_law_whole" ["_law_found"] st__law_whole) (T : Bts mg) : Ok P w K mg base CX0 1 "_law_whole" ["_law_found"] sp__law_whole := by
  refine A.ok sc__law_whole (fun vs H Q E h => ?_) (fun f cdv A outer s H vs Q E hr h => ?_)
  · obtain ⟨n, rfl, _⟩ := h; rfl
  · obtain ⟨n, rfl, q⟩ := h
    refine ⟨_, (pss_one (ps_ret (pe_and (pe_callB call_isi (by rfl) T.m_isinstance (by decide +kernel) (pa_cons (pv 0) (pa_cons (pe_bltn (v := .ty "int") (u := .type "int") (by rfl) T.m_int (by decide +kernel) rfl) pa_nil))) (pe_one (pe_not (pe_callB call_isi (by rfl) T.m_isinstance (by decide +kernel) (pa_cons (pv 0) (pa_cons (pe_bltn (v := .ty "bool") (u := .type "bool") (by rfl) T.m_bool (by decide +kernel) rfl) pa_nil)))))))), ?_⟩
    refine ⟨_, rfl, _, .ty "int", _, _, true, rfl, .ty "int", .base (.int _), kit_ty (by decide +kernel), true, rfl, iteT ?_⟩
    exact ⟨_, rfl, _, .ty "bool", _, _, false, rfl, .ty "bool", .base (.int _), kit_ty (by decide +kernel), false, rfl, q⟩

def sp__law_wholes (K : PySem.W.Frag) : Sp := fun vs H Q _ => ∃ (a : Addr) (ns : List Int), vs = [.ref a] ∧ H a = some (.lst (vis ns)) ∧ Q (.bl true) H
theorem ok__law_wholes (A : At K mg "_law_wholes" ["_law_found"] st__law_wholes) (T : Bts mg) (G__law_whole : Ok P w K mg base CX0 1 "_law_whole" ["_law_found"] sp__law_whole) :
    Ok P w K mg base CX0 2 "_law_wholes" ["_law_found"] (sp__law_wholes K) := by
  refine A.ok sc__law_wholes (fun vs H Q E h => ?_) (fun f cdv A outer s H vs Q E hr h => ?_)
  · obtain ⟨a, ns, rfl, _⟩ := h; rfl
  · obtain ⟨a, ns, rfl, ha, q⟩ := h
    refine ⟨_, (pss_cons (ps_if (pt_not (pt_val (pe_callB call_isi (by rfl) T.m_isinstance (by decide +kernel) (pa_cons (pv 0) (pa_cons (pe_bltn (v := .ty "list") (u := .type "list") (by rfl) T.m_list (by decide +kernel) rfl) pa_nil))))) (pss_one (ps_ret pe_bl)) pss_nil)
      (pss_cons (ps_for PassesOwn.never rfl (pi_list (pv 0)) (pg_name (i := 1) sc__law_wholes.nd rfl (Or.inl rfl))
      (pss_one (ps_if (pt_not (pt_val (pe_cd G__law_whole (hr.mono (by decide)) pass0 (pa_cons (pv 1) pa_nil)))) (pss_one (ps_ret pe_bl)) pss_nil)))
      (pss_one (ps_ret pe_bl)))), ?_⟩
    refine ⟨_, rfl, .ref a, .ty "list", _, _, true, rfl, .ty "list", .base (.lst ha), kit_ty (by decide +kernel), true, rfl, iteF ?_⟩
    refine ⟨_, rfl, a, rfl, ⟨_, .of ha⟩, ?_⟩
    refine for_lst (f := V.int) (l := ns) (fun d r σ H3 => H3 = H ∧ ∃ y, σ = [some (.ref a), y]) ⟨rfl, none, rfl⟩ ?_ ?_ ?_
    · rintro d r σ H3 ⟨rfl, _⟩; exact .of ha
    · rintro d x r σ H3 e ⟨rfl, y, rfl⟩
      exact ⟨_, rfl, x, rfl, _, rfl, iteF ⟨rfl, _, rfl⟩⟩
    · rintro σ H3 ⟨rfl, y, rfl⟩
      exact q

def sp__law_texts (K : PySem.W.Frag) : Sp := fun vs H Q _ => ∃ (a b : Addr) (ws : List (List Nat)), vs = [.ref a, .ref b] ∧ H a = some (.lst (vts ws)) ∧ SqL K H b (vts ws) ∧ ws.length ≤ 1000000 ∧ Q (.bl true) H
theorem ok__law_texts (A : At K mg "_law_texts" ["_law_found", "_law_due_here"] st__law_texts) (T : Bts mg) : Ok P w K mg base CX0 1 "_law_texts" ["_law_found", "_law_due_here"] (sp__law_texts K) := by
  refine A.ok sc__law_texts (fun vs H Q E h => ?_) (fun f cdv A outer s H vs Q E hr h => ?_)
  · obtain ⟨a, b, ws, rfl, _⟩ := h; rfl
  · obtain ⟨a, b, ws, rfl, ha, hb, hl, q⟩ := h
    refine ⟨_, (pss_cons (ps_if (PW.pt (pw_or (pt_not (pt_val (pe_callB call_isi (by rfl) T.m_isinstance (by decide +kernel) (pa_cons (pv 0) (pa_cons (pe_bltn (v := .ty "list") (u := .type "list") (by rfl) T.m_list (by decide +kernel) rfl) pa_nil))))) (pw_or1 (pt_cmpR op_ne (pe_callB (call_lenK K) (by rfl) T.m_len PySem.boot_len (pa_cons (pv 0) pa_nil)) (pe_callB (call_lenK K) (by rfl) T.m_len PySem.boot_len (pa_cons (pv 1) pa_nil)) (nomark _))))) (pss_one (ps_ret pe_bl)) pss_nil)
      (pss_cons (ps_for PassesOwn.never rfl (pi_range1 (by rfl) T.m_range (pa_cons (pe_callB (call_lenK K) (by rfl) T.m_len PySem.boot_len (pa_cons (pv 1) pa_nil)) pa_nil)) (pg_name (i := 2) sc__law_texts.nd rfl (Or.inl rfl))
      (pss_one (ps_if (PW.pt (pw_or (pt_not (pt_val (pe_callB call_isi (by rfl) T.m_isinstance (by decide +kernel) (pa_cons (pe_ix (ix_listK K) (pv 0) (pv 2) (fun _ _ => rfl)) (pa_cons (pe_bltn (v := .ty "str") (u := .type "str") (by rfl) T.m_str (by decide +kernel) rfl) pa_nil))))) (pw_or1 (pt_cmpR op_ne (pe_ix (ix_listK K) (pv 0) (pv 2) (fun _ _ => rfl)) (pe_ix (ix_listK K) (pv 1) (pv 2) (fun _ _ => rfl)) (nomark _))))) (pss_one (ps_ret pe_bl)) pss_nil)))
      (pss_one (ps_ret pe_bl)))), ?_⟩
    refine ⟨_, rfl, .ref a, .ty "list", _, _, true, rfl, .ty "list", .base (.lst ha), kit_ty (by decide +kernel), ?_⟩
    refine ⟨true, rfl, iteF ?_⟩
    refine ⟨_, rfl, a, _, rfl, .inl (.of ha), _, rfl, b, _, rfl, .inl hb, rfl, _, rfl, tsn (c := True) (by simp) (fun n => absurd trivial n) (fun _ => ?_)⟩
    refine ⟨_, rfl, b, _, rfl, .inl hb, ((vts ws).length : Nat), rfl, by omega, by rw [List.length_map]; omega, ?_⟩
    rw [Int.toNat_natCast]
    refine for_range (n := (vts ws).length) (fun i σ H3 => H3 = H ∧ ∃ y, σ = [some (.ref a), some (.ref b), y]) ⟨rfl, none, rfl⟩ ?_ ?_
    · rintro i σ H3 hi ⟨rfl, y, rfl⟩
      have hi' : i < ws.length := by rw [List.length_map] at hi; exact hi
      have g : (vts ws)[i]? = some (vt ws[i]) := flat_get (List.getElem?_eq_getElem hi')
      have e0 : (0 + (i : Int)) = (i : Int) := by omega
      refine ⟨_, rfl, _, rfl, a, _, _, _, rfl, rfl, .of ha, at_of e0 g, _, .ty "str", _, _, true, rfl, .ty "str", .base (.str _), kit_ty (by decide +kernel), true, rfl, iteF ?_⟩
      refine ⟨_, rfl, _, rfl, a, _, _, _, rfl, rfl, .of ha, at_of e0 g, _, rfl, _, rfl, b, _, _, _, rfl, rfl, hb, at_of e0 g, rfl, _, rfl, tsn (c := True) (by simp) (fun n => absurd trivial n) (fun _ => ?_)⟩
      exact ⟨rfl, _, rfl⟩
    · rintro σ H3 ⟨rfl, y, rfl⟩
      exact q

def sp__law_longest (K : PySem.W.Frag) : Sp := fun vs H Q _ => ∃ (p : Addr) (ws : List (List Nat)), vs = [.ref p] ∧ SqL K H p (vts ws) ∧ Bw ws ∧ Q (.int (longest ws : Nat)) H
theorem ok__law_longest (A : At K mg "_law_longest" ["_law_row"] st__law_longest) (T : Bts mg) : Ok P w K mg base CX0 1 "_law_longest" ["_law_row"] (sp__law_longest K) := by
  refine A.ok sc__law_longest (fun vs H Q E h => ?_) (fun f cdv A outer s H vs Q E hr h => ?_)
  · obtain ⟨p, ws, rfl, _⟩ := h; rfl
  · obtain ⟨p, ws, rfl, hS, hw, q⟩ := h
    refine ⟨_, (pss_cons (ps_set (i := 1) sc__law_longest.nd rfl (Or.inl rfl) pe_int)
      (pss_cons (ps_for PassesOwn.never rfl (pi_list (pv 0)) (pg_name (i := 2) sc__law_longest.nd rfl (Or.inl rfl))
      (pss_one (ps_set (i := 1) sc__law_longest.nd rfl (Or.inl rfl) (pe_callB (call_max2 rfl) (by rfl) T.m_max (by decide +kernel) (pa_cons (pv 1) (pa_cons (pe_callB call_len_str (by rfl) T.m_len PySem.boot_len (pa_cons (pv 2) pa_nil)) pa_nil))))))
      (pss_one (ps_ret (pv 1))))), ?_⟩
    refine ⟨_, rfl, p, rfl, ⟨_, hS⟩, ?_⟩
    refine for_lst (f := vt) (l := ws) (fun d r σ H3 => H3 = H ∧ ∃ y, σ = [some (.ref p), some (.int (longest d : Nat)), y]) ⟨rfl, none, rfl⟩ ?_ ?_ ?_
    · rintro d r σ H3 ⟨rfl, _⟩; exact hS
    · rintro d x r σ H3 e ⟨rfl, y, rfl⟩
      have hx : x ∈ ws := by rw [e]; simp
      refine ⟨_, rfl, _, rfl, tx x, rfl, by rw [tx_len]; exact sz (by have := hw.wl hx; omega), _, _, rfl, rfl, some (vt x), ?_⟩
      rw [longest_app, tx_len]
      have e9 : (if ((x.length : Nat) : Int) > (longest d : Nat) then ((x.length : Nat) : Int) else (longest d : Nat)) = ((max (longest d) x.length : Nat) : Int) := by
        split <;> omega
      exact congrArg (fun z => [some (V.ref p), some (V.int z), some (vt x)]) e9
    · rintro σ H3 ⟨rfl, y, rfl⟩
      exact ⟨_, rfl, q⟩

theorem b2_pr {ws : List (List Nat)} {wd : Int} {a e : Nat} (b : Bool) (hb : b = decide (e < ws.length)) (he : e ≤ ws.length) :
    (wd - (size ws a e : Nat)) * (wd - (size ws a e : Nat)) * (if b = true then 1 else 0) = pr ws wd a e := by
  subst hb
  by_cases h : e < ws.length
  · rw [decide_eq_true h, if_pos rfl, pr_gap (by omega), Int.mul_one]
  · rw [decide_eq_false h, if_neg Bool.false_ne_true, pr_last (by omega), Int.mul_zero]
def sp__law_table_right (K : PySem.W.Frag) : Sp := fun vs H Q _ => ∃ (p o : Addr) (ws : List (List Nat)) (n : Int) (xs : List Int), vs = [.ref p, .int n, .ref o] ∧ SqL K H p (vts ws) ∧ H o = some (.lst (vis xs)) ∧ Bw ws ∧ Wb n ∧ Ft ws n ∧
  xs.length = ws.length + 1 ∧ Tab ws n (tb xs) ∧ Q (.bl true) H
theorem ok__law_table_right (A : At K mg "_law_table_right" ["_law_row", "_law_width", "_law_found"] st__law_table_right) (T : Bts mg) (G__law_wholes : Ok P w K mg base CX0 2 "_law_wholes" ["_law_found"] (sp__law_wholes K)) :
    Ok P w K mg base CX0 3 "_law_table_right" ["_law_row", "_law_width", "_law_found"] (sp__law_table_right K) := by
  refine A.ok sc__law_table_right (fun vs H Q E h => ?_) (fun f cdv A outer s H vs Q E hr h => ?_)
  · obtain ⟨p, o, ws, n, xs, rfl, _⟩ := h; rfl
  · obtain ⟨p, o, ws, n, xs, rfl, hS, eo, hw, hn, ft, hl, ht, q⟩ := h
    refine ⟨_, (pss_cons (ps_if (PW.pt (pw_or (pt_not (pt_val (pe_cd G__law_wholes (hr.mono (by decide)) pass0 (pa_cons (pv 2) pa_nil)))) (pw_or (pt_cmpR op_ne (pe_callB (call_lenK K) (by rfl) T.m_len PySem.boot_len (pa_cons (pv 2) pa_nil)) (pe_op op_add (pe_callB (call_lenK K) (by rfl) T.m_len PySem.boot_len (pa_cons (pv 0) pa_nil)) pe_int) (nomark _)) (pw_or1 (pt_cmpR op_ne (pe_ix (ix_listK K) (pv 2) (pe_un un_neg pe_int) (fun _ _ => rfl)) pe_int (nomark _)))))) (pss_one (ps_ret pe_bl)) pss_nil)
      (pss_cons (ps_for PassesOwn.never rfl (pi_range1 (by rfl) T.m_range (pa_cons (pe_callB (call_lenK K) (by rfl) T.m_len PySem.boot_len (pa_cons (pv 0) pa_nil)) pa_nil)) (pg_name (i := 3) sc__law_table_right.nd rfl (Or.inl rfl))
      (pss_cons (ps_set (i := 4) sc__law_table_right.nd rfl (Or.inl rfl) (pe_un un_neg pe_int))
      (pss_cons (ps_set (i := 5) sc__law_table_right.nd rfl (Or.inl rfl) pe_bl)
      (pss_cons (ps_for PassesOwn.never rfl (pi_range2 (by rfl) T.m_range (pa_cons (pe_op op_add (pv 3) pe_int) (pa_cons (pe_op op_add (pe_callB (call_lenK K) (by rfl) T.m_len PySem.boot_len (pa_cons (pv 0) pa_nil)) pe_int) pa_nil))) (pg_name (i := 6) sc__law_table_right.nd rfl (Or.inl rfl))
      (pss_cons (ps_set (i := 4) sc__law_table_right.nd rfl (Or.inl rfl) (pe_op op_add (pe_op op_add (pv 4) pe_int) (pe_callB call_len_str (by rfl) T.m_len PySem.boot_len (pa_cons (pe_ix (ix_listK K) (pv 0) (pe_op op_sub (pv 6) pe_int) (fun _ _ => rfl)) pa_nil))))
      (pss_cons (ps_if (pt_cmpR op_gt (pv 4) (pv 1) (nomark _)) (pss_one ps_break) pss_nil)
      (pss_cons (ps_set (i := 7) sc__law_table_right.nd rfl (Or.inl rfl) (pe_op op_add (pe_ix (ix_listK K) (pv 2) (pv 6) (fun _ _ => rfl)) (pe_op op_mulW (pe_op op_powW (pe_op op_sub (pv 1) (pv 4)) pe_int) (pe_callTy call_int1 (by rfl) T.m_int (by decide +kernel) (pa_cons (pe_cmpR op_lt (pv 6) (pe_callB (call_lenK K) (by rfl) T.m_len PySem.boot_len (pa_cons (pv 0) pa_nil)) (nomark _)) pa_nil)))))
      (pss_cons (ps_if (pt_cmpR op_gt (pe_ix (ix_listK K) (pv 2) (pv 3) (fun _ _ => rfl)) (pv 7) (nomark _)) (pss_one (ps_ret pe_bl)) pss_nil)
      (pss_one (ps_set (i := 5) sc__law_table_right.nd rfl (Or.inl rfl) (pe_or (pv 5) (pe_one (pe_cmpR op_eq (pe_ix (ix_listK K) (pv 2) (pv 3) (fun _ _ => rfl)) (pv 7) (nomark _)))))))))))
      (pss_one (ps_if (pt_not (pt_val (pv 5))) (pss_one (ps_ret pe_bl)) pss_nil))))))
      (pss_one (ps_ret pe_bl)))), ?_⟩
    have hle := hw.le
    have hT : SqL K H o (vis xs) := .of eo
    have hne : xs ≠ [] := fun z => by rw [z] at hl; simp at hl
    have hlast : xs.getLast hne = 0 := by
      have := ht.1
      unfold tb at this
      rw [List.getD_eq_getElem?_getD, List.getElem?_eq_getElem (by omega)] at this
      rw [List.getLast_eq_getElem]
      have e : xs.length - 1 = ws.length := by omega
      simp only [e]; exact this
    refine ⟨_, rfl, o, xs, rfl, eo, _, rfl, ?_⟩
    refine iteF ?_
    refine ⟨_, rfl, o, _, rfl, .inl hT, _, rfl, p, _, rfl, .inl hS, _, _, rfl, rfl, rfl, _, rfl, ?_⟩
    rw [show (!decide (V.int (((vis xs).length : Nat) : Int) = V.int ((((vts ws).length : Nat) : Int) + 1))) = false by
      rw [dec_vi, List.length_map, List.length_map, hl]; simp]
    refine ⟨_, rfl, _, rfl, o, _, _, _, rfl, rfl, hT, vis_last hne, rfl, _, rfl, ?_⟩
    rw [show (!decide (V.int (xs.getLast hne) = V.int 0)) = false by rw [dec_vi, hlast]; simp]
    refine iteF ?_
    refine ⟨_, rfl, p, _, rfl, .inl hS, ws.length, by rw [List.length_map], by omega, by omega, ?_⟩
    refine for_range (n := ws.length) (fun i σ H' => H' = H ∧ ∃ (x1 x2 x3 x4 x5 : Option V), σ = [some (.ref p), some (.int n), some (.ref o), x1, x2, x3, x4, x5]) ?_ ?_ ?_
    · exact ⟨rfl, none, none, none, none, none, rfl⟩
    · rintro a σ H' ha ⟨rfl, x1, x2, x3, x4, x5, rfl⟩
      obtain ⟨be, hbe, hTa⟩ := ht.2 a ha
      have e0 : (0 + (a : Int)) = (a : Int) := by omega
      refine (show gName 3 (V.int (0 + (a : Int))) _ _ _ from ?_)
      rw [e0]
      have ga := tb_get (xs := xs) (e := a) (by omega)
      refine ⟨_, rfl, ?_⟩
      refine ⟨_, rfl, _, _, rfl, rfl, _, rfl, p, _, rfl, .inl hS, _, _, rfl, rfl, _, _, rfl, ⟨by omega, by omega, by rw [List.length_map]; omega, by rw [List.length_map]; omega⟩, ?_⟩
      refine for_range (n := (((vts ws).length : Int) + 1 - ((a : Int) + 1)).toNat) (fun i σ H2 => H2 = H' ∧ ∃ (b : Bool) (s0 : Int) (x4 x5 : Option V), σ = [some (.ref p), some (.int n), some (.ref o), some (.int a), some (.int s0), some (.bl b), x4, x5] ∧
          a + i ≤ ws.length ∧ ((i = 0 ∧ s0 = -1) ∨ (0 < i ∧ s0 = (size ws a (a + i) : Nat) ∧ ((size ws a (a + i) : Nat) : Int) ≤ n)) ∧ (be ≤ a + i → b = true)) ?_ ?_ ?_
      · exact ⟨rfl, false, -1, _, _, rfl, by omega, .inl ⟨rfl, rfl⟩, fun z => by have := hbe.1; omega⟩
      · rintro i σ H2 hi ⟨rfl, b, s0, x4, x5, rfl, f1, f2, f3⟩
        rw [List.length_map] at hi
        have hc : a + i < ws.length := by omega
        have gc : (vts ws)[a + i]? = some (vt ws[a + i]) := flat_get (List.getElem?_eq_getElem hc)
        have e0 : ((a : Int) + 1 + (i : Int)) - 1 = ((a + i : Nat) : Int) := by omega
        have e1 : (a : Int) + 1 + (i : Int) = ((a + (i + 1) : Nat) : Int) := by omega
        have gt := tb_get (xs := xs) (e := a + (i + 1)) (by omega)
        have es : s0 + 1 + (ws[a + i].length : Nat) = ((size ws a (a + (i + 1)) : Nat) : Int) := by
          rcases f2 with ⟨g1, g2⟩ | ⟨g1, g2, g3⟩
          · subst g1
            have := size_one ws (show a < ws.length by omega)
            show s0 + 1 + ((ws[a].length : Nat) : Int) = ((size ws a (a + 1) : Nat) : Int)
            rw [this, g2]; omega
          · have := size_snoc ws (show a < a + i by omega) hc
            rw [show a + (i + 1) = a + i + 1 by omega, this, g2]; omega
        have hsz := hw.size a (a + (i + 1))
        refine (show gName 6 (V.int ((a : Int) + 1 + (i : Int))) _ _ _ from ?_)
        rw [e1]
        refine ⟨_, rfl, _, _, rfl, rfl, _, rfl, _, rfl, _, _, rfl, rfl, p, _, _, _, rfl, rfl, hS, at_of (show ((a + (i + 1) : Nat) : Int) - 1 = ((a + i : Nat) : Int) by omega) gc, tx ws[a + i], rfl, by rw [tx_len]; exact sz (by have := hw.wl (List.getElem_mem hc); omega), ?_⟩
        rw [tx_len]
        refine rI0_at (v := .int (size ws a (a + (i + 1)) : Nat)) (congrArg V.int es) ?_
        refine ⟨_, rfl, _, rfl, _, _, rfl, rfl, _, rfl, tst (c := n < (size ws a (a + (i + 1)) : Nat)) rfl (fun h1 => ?_) (fun h1 => ?_)⟩
        · -- a break: the best end is behind us
          have hbe' : be ≤ a + i := by
            rcases Nat.lt_or_ge (a + i) be with l | l
            · have := size_mono (ws := ws) (Nat.le_refl a) (show a < a + (i + 1) by omega) (show a + (i + 1) ≤ be by omega) hbe.2.1
              have := hbe.2.2.1
              omega
            · exact l
          have := f3 hbe'
          subst this
          refine ⟨_, rfl, _, rfl, iteF ⟨rfl, _, _, _, _, _, rfl⟩⟩
        · obtain ⟨bb, hbb⟩ : ∃ bb, decide (((a + (i + 1) : Nat) : Int) < ((vts ws).length : Nat)) = bb := ⟨_, rfl⟩
          have hbb' : bb = decide (a + (i + 1) < ws.length) := by rw [← hbb, List.length_map]; simp only [decide_eq_decide]; omega
          have hpr := b2_pr (ws := ws) (wd := n) (a := a) (e := a + (i + 1)) bb hbb' (by omega)
          refine ⟨_, rfl, _, rfl, o, _, _, _, rfl, rfl, hT, atI_nat gt, _, rfl, _, rfl, _, _, rfl, rfl, _, _, rfl, rfl, by decide, hn.pow (by omega), ?_⟩
          rw [pow_two']
          refine ⟨_, rfl, _, rfl, p, _, rfl, .inl hS, _, _, rfl, rfl, .inr ⟨_, rfl, ?_⟩⟩
          rw [hbb]
          refine rI_at (v := .int (pr ws n a (a + (i + 1)))) (congrArg V.int hpr) ?_ ?_
          · refine wide_mul (a := 242) (b := 1) (wide_lt (hn.sub (by omega)) (hn.sub (by omega))) ?_ (by decide) (by decide) (by decide)
            cases bb <;> decide
          refine ⟨_, _, rfl, rfl, ?_⟩
          have hfit : ((size ws a (a + (i + 1)) : Nat) : Int) ≤ n := by omega
          have hle2 := (hbe.2.2.2 (a + (i + 1)) (by omega) (by omega) hfit).1
          refine ⟨_, rfl, _, rfl, o, _, _, _, rfl, rfl, hT, atI_nat ga, _, rfl, _, _, rfl, rfl, _, rfl, tst (c := tb xs (a + (i + 1)) + pr ws n a (a + (i + 1)) < tb xs a) rfl (fun h2 => by omega) (fun h2 => ?_)⟩
          refine ⟨_, rfl, b, rfl, ?_⟩
          have fin : ∀ b' : Bool, (be ≤ a + (i + 1) → b' = true) → ∃ (b : Bool) (s0 : Int) (x4 x5 : Option V), ([some (.ref p), some (.int n), some (.ref o), some (.int a), some (.int (size ws a (a + (i + 1)) : Nat)), some (.bl b'), some (.int (a + (i + 1) : Nat)), some (.int (tb xs (a + (i + 1)) + pr ws n a (a + (i + 1))))] : List (Option V)) = [some (.ref p), some (.int n), some (.ref o), some (.int a), some (.int s0), some (.bl b), x4, x5] ∧
              a + (i + 1) ≤ ws.length ∧ ((i + 1 = 0 ∧ s0 = -1) ∨ (0 < i + 1 ∧ s0 = (size ws a (a + (i + 1)) : Nat) ∧ ((size ws a (a + (i + 1)) : Nat) : Int) ≤ n)) ∧ (be ≤ a + (i + 1) → b = true) :=
            fun b' hb' => ⟨b', _, _, _, rfl, by omega, .inr ⟨by omega, rfl, hfit⟩, hb'⟩
          cases b with
          | true => exact iteT ⟨rfl, fin true fun _ => rfl⟩
          | false =>
            refine iteF ?_
            refine ⟨_, rfl, _, rfl, o, _, _, _, rfl, rfl, hT, atI_nat ga, _, rfl, rfl, rfl, fin _ fun z => ?_⟩
            rcases Nat.lt_or_ge (a + i) be with l | l
            · have : be = a + (i + 1) := by omega
              subst this
              rw [dec_vi, decide_eq_true_iff, hTa]; omega
            · have := f3 l
              cases this
      · rintro σ H2 ⟨rfl, b, s0, x4, x5, rfl, f1, f2, f3⟩
        have := f3 (by rw [List.length_map]; have := hbe.2.1; omega)
        subst this
        exact ⟨_, rfl, _, rfl, iteF ⟨rfl, _, _, _, _, _, rfl⟩⟩
    · rintro σ H' ⟨rfl, x1, x2, x3, x4, x5, rfl⟩
      exact q

/-- there is but one table -/
theorem Tab.only {ws : List (List Nat)} {wd : Int} {T T' : Nat → Int} (h : Tab ws wd T) (h' : Tab ws wd T') : ∀ a, a ≤ ws.length → T a = T' a := by
  have key : ∀ k a, a ≤ ws.length → ws.length - a = k → T a = T' a := by
    intro k
    induction k using Nat.strongRecOn with
    | ind k ih =>
      intro a ha hk
      rcases Nat.lt_or_eq_of_le ha with l | l
      · obtain ⟨e, hb, he⟩ := h.2 a l
        obtain ⟨e', hb', he'⟩ := h'.2 a l
        have i1 : T e = T' e := ih (ws.length - e) (by have := hb.1; have := hb.2.1; omega) e hb.2.1 rfl
        have i2 : T e' = T' e' := ih (ws.length - e') (by have := hb'.1; have := hb'.2.1; omega) e' hb'.2.1 rfl
        have h1 := (hb.2.2.2 e' hb'.1 hb'.2.1 hb'.2.2.1).1
        have h2 := (hb'.2.2.2 e hb.1 hb.2.1 hb.2.2.1).1
        omega
      · subst l
        rw [h.1, h'.1]
  exact fun a ha => key _ a ha rfl
theorem Bc.congr {ws : List (List Nat)} {wd : Int} {T T' : Nat → Int} (ht : ∀ a, a ≤ ws.length → T a = T' a) : ∀ {ks : List Nat} {a : Nat}, Bc ws wd T a ks → Bc ws wd T' a ks
  | [], _, h => h
  | _ :: _, _, h => by
    obtain ⟨h1, e, hb, h5⟩ := h
    refine ⟨h1, e, ⟨hb.1, hb.2.1, hb.2.2.1, fun e' g1 g2 g3 => ?_⟩, Bc.congr ht h5⟩
    rw [← ht e hb.2.1, ← ht e' g2]
    exact hb.2.2.2 e' g1 g2 g3
def sp__law_starts_by_table (K : PySem.W.Frag) : Sp := fun vs H Q _ => ∃ (p t : Addr) (ws : List (List Nat)) (n : Int) (xs : List Int), vs = [.ref p, .int n, .ref t] ∧ SqL K H p (vts ws) ∧ SqL K H t (vis xs) ∧ Bw ws ∧ Wb n ∧ Ft ws n ∧ xs.length = ws.length + 1 ∧ Tab ws n (tb xs) ∧
  ∀ H' o ks, Same H H' → H o = none → H' o = some (.lst (vis (toI ks))) → Bc ws n (tb xs) 0 ks → Q (.ref o) H'
theorem ok__law_starts_by_table (A : At K mg "_law_starts_by_table" ["_law_row", "_law_width", "_law_told_here"] st__law_starts_by_table) (T : Bts mg) :
    Ok P w K mg base CX0 1 "_law_starts_by_table" ["_law_row", "_law_width", "_law_told_here"] (sp__law_starts_by_table K) := by
  refine A.ok sc__law_starts_by_table (fun vs H Q E h => ?_) (fun f cdv A outer s H vs Q E hr h => ?_)
  · obtain ⟨p, t, ws, n, xs, rfl, _⟩ := h; rfl
  · obtain ⟨p, t, ws, n, xs, rfl, hS0, hT0, hw, hn, ft, hl, ht, q⟩ := h
    refine ⟨_, (pss_cons (ps_set (i := 3) sc__law_starts_by_table.nd rfl (Or.inl rfl) (pe_lst pa_nil))
      (pss_cons (ps_set (i := 4) sc__law_starts_by_table.nd rfl (Or.inl rfl) pe_int)
      (pss_cons (ps_while PassesOwn.never (pt_cmpR op_lt (pv 4) (pe_callB (call_lenK K) (by rfl) T.m_len PySem.boot_len (pa_cons (pv 0) pa_nil)) (nomark _))
      (pss_cons (ps_expr (pe_bm PySem.F.plainAttrs_list PySem.F.slot_list_append PySem.F.type_list_append mt_append (pv 3) (pa_cons (pv 4) pa_nil)))
      (pss_cons (ps_set (i := 5) sc__law_starts_by_table.nd rfl (Or.inl rfl) (pe_un un_neg pe_int))
      (pss_cons (ps_set (i := 6) sc__law_starts_by_table.nd rfl (Or.inl rfl) (pe_op op_add (pv 4) pe_int))
      (pss_cons (ps_for PassesOwn.never rfl (pi_range2 (by rfl) T.m_range (pa_cons (pe_op op_add (pv 4) pe_int) (pa_cons (pe_op op_add (pe_callB (call_lenK K) (by rfl) T.m_len PySem.boot_len (pa_cons (pv 0) pa_nil)) pe_int) pa_nil))) (pg_name (i := 7) sc__law_starts_by_table.nd rfl (Or.inl rfl))
      (pss_cons (ps_set (i := 5) sc__law_starts_by_table.nd rfl (Or.inl rfl) (pe_op op_add (pe_op op_add (pv 5) pe_int) (pe_callB call_len_str (by rfl) T.m_len PySem.boot_len (pa_cons (pe_ix (ix_listK K) (pv 0) (pe_op op_sub (pv 7) pe_int) (fun _ _ => rfl)) pa_nil))))
      (pss_cons (ps_if (pt_cmpR op_gt (pv 5) (pv 1) (nomark _)) (pss_one ps_break) pss_nil)
      (pss_one (ps_if (pt_cmpR op_eq (pe_ix (ix_listK K) (pv 2) (pv 4) (fun _ _ => rfl)) (pe_op op_add (pe_ix (ix_listK K) (pv 2) (pv 7) (fun _ _ => rfl)) (pe_op op_mulW (pe_op op_powW (pe_op op_sub (pv 1) (pv 5)) pe_int) (pe_callTy call_int1 (by rfl) T.m_int (by decide +kernel) (pa_cons (pe_cmpR op_lt (pv 7) (pe_callB (call_lenK K) (by rfl) T.m_len PySem.boot_len (pa_cons (pv 0) pa_nil)) (nomark _)) pa_nil)))) (nomark _)) (pss_one (ps_set (i := 6) sc__law_starts_by_table.nd rfl (Or.inl rfl) (pv 7))) pss_nil)))))
      (pss_one (ps_set (i := 4) sc__law_starts_by_table.nd rfl (Or.inl rfl) (pv 6))))))))
      (pss_one (ps_ret (pv 3)))))), ?_⟩
    have hle := hw.le
    refine ⟨sz (by simp), fun D hD => ?_⟩
    have s1 := (Same.refl H).new (o := HO.lst []) hD
    have eD : (upd H D (HO.lst [])) D = some (.lst (vis (toI []))) := upd_same
    generalize upd H D (HO.lst []) = H1 at s1 eD ⊢
    refine while_N (fun σ H' => Same H H' ∧ ∃ (x : Nat) (ks : List Nat) (y1 y2 y3 : Option V), σ = [some (.ref p), some (.int n), some (.ref t), some (.ref D), some (.int x), y1, y2, y3] ∧ H' D = some (.lst (vis (toI ks))) ∧ x ≤ ws.length ∧ ks.length ≤ x ∧
        ∀ r, Bc ws n (tb xs) x r → Bc ws n (tb xs) 0 (ks ++ r)) (fun σ _ => match σ with | [_, _, _, _, some (.int a), _, _, _] => ((ws.length : Int) - a).toNat | _ => 0) ?_ ?_
    · exact ⟨s1, 0, [], none, none, none, rfl, eD, Nat.zero_le _, Nat.le_refl _, fun r h => h⟩
    rintro σ H' ⟨s2, a, ks, y1, y2, y3, rfl, eD2, hx, hkl, hk⟩
    refine ⟨_, rfl, _, rfl, p, _, rfl, .inl (s2.seq hS0), _, _, rfl, rfl, _, rfl, tst (c := a < ws.length) (by rw [List.length_map]; simp only [decide_eq_decide]; omega) (fun h1 => ?_) (fun h1 => ?_)⟩
    · refine ⟨fun σ' H' => (Same H H' ∧ ∃ (x : Nat) (ks : List Nat) (y1 y2 y3 : Option V), σ' = [some (.ref p), some (.int n), some (.ref t), some (.ref D), some (.int x), y1, y2, y3] ∧ H' D = some (.lst (vis (toI ks))) ∧ x ≤ ws.length ∧ ks.length ≤ x ∧
        ∀ r, Bc ws n (tb xs) x r → Bc ws n (tb xs) 0 (ks ++ r)) ∧ (match σ' with | [_, _, _, _, some (.int a), _, _, _] => ((ws.length : Int) - a).toNat | _ => 0) < ((ws.length : Int) - (a : Int)).toNat, fun σ' H' ⟨h, h2⟩ => ⟨_, h2, rfl, h⟩, ?_⟩
      refine ⟨_, rfl, .inl ⟨rfl, _, .of eD2⟩, _, rfl, D, _, _, rfl, rfl, eD2, by rw [List.length_map, toI_length]; exact sz (by omega), ?_⟩
      have s3 := s2.put (o := HO.lst (vis (toI ks) ++ [V.int (a : Nat)])) hD
      have eD3 : (upd H' D (HO.lst (vis (toI ks) ++ [V.int (a : Nat)]))) D = some (.lst (vis (toI (ks ++ [a])))) := by
        rw [upd_same, toI_app]; exact congrArg some (congrArg HO.lst (vis_app _ _).symm)
      generalize upd H' D (HO.lst (vis (toI ks) ++ [V.int (a : Nat)])) = H3 at s3 eD3 ⊢
      have hS := s3.seq hS0
      have hT := s3.seq hT0
      have ha := h1
      obtain ⟨be, hbe, hTa⟩ := ht.2 a ha
      have ga := tb_get (xs := xs) (e := a) (by omega)
      have fin : ∀ (s0 : Int) (x5 : Option V), (Same H H3 ∧ ∃ (x : Nat) (ks : List Nat) (y1 y2 y3 : Option V), ([some (.ref p), some (.int n), some (.ref t), some (.ref D), some (.int (be : Nat)), some (.int s0), some (.int (be : Nat)), x5] : List (Option V)) = [some (.ref p), some (.int n), some (.ref t), some (.ref D), some (.int x), y1, y2, y3] ∧ H3 D = some (.lst (vis (toI ks))) ∧ x ≤ ws.length ∧ ks.length ≤ x ∧
          ∀ r, Bc ws n (tb xs) x r → Bc ws n (tb xs) 0 (ks ++ r)) ∧ ((ws.length : Int) - (be : Int)).toNat < ((ws.length : Int) - (a : Int)).toNat := fun s0 x5 => by
        refine ⟨⟨s3, be, ks ++ [a], _, _, _, rfl, eD3, hbe.2.1, by rw [List.length_append, List.length_singleton]; have := hbe.1; omega, fun r hr => ?_⟩, ?_⟩
        · rw [List.append_assoc]; exact hk _ ⟨rfl, be, hbe, hr⟩
        · have := hbe.1
          omega
      refine ⟨_, rfl, _, rfl, _, _, rfl, rfl, ?_⟩
      refine ⟨_, rfl, _, _, rfl, rfl, _, rfl, p, _, rfl, .inl hS, _, _, rfl, rfl, _, _, rfl, ⟨by omega, by omega, by rw [List.length_map]; omega, by rw [List.length_map]; omega⟩, ?_⟩
      refine for_range (n := (((vts ws).length : Int) + 1 - ((a : Int) + 1)).toNat) (fun i σ H2 => H2 = H3 ∧ ∃ (s0 : Int) (g : Nat) (x5 : Option V), σ = [some (.ref p), some (.int n), some (.ref t), some (.ref D), some (.int a), some (.int s0), some (.int (g : Nat)), x5] ∧
          a + i ≤ ws.length ∧ ((i = 0 ∧ s0 = -1) ∨ (0 < i ∧ s0 = (size ws a (a + i) : Nat) ∧ ((size ws a (a + i) : Nat) : Int) ≤ n)) ∧ (be ≤ a + i → g = be)) ?_ ?_ ?_
      · exact ⟨rfl, -1, a + 1, _, rfl, by omega, .inl ⟨rfl, rfl⟩, fun z => by have := hbe.1; omega⟩
      · rintro i σ H2 hi ⟨rfl, s0, g, x5, rfl, f1, f2, f3⟩
        rw [List.length_map] at hi
        have hc : a + i < ws.length := by omega
        have gc : (vts ws)[a + i]? = some (vt ws[a + i]) := flat_get (List.getElem?_eq_getElem hc)
        have e1 : (a : Int) + 1 + (i : Int) = ((a + (i + 1) : Nat) : Int) := by omega
        have gt := tb_get (xs := xs) (e := a + (i + 1)) (by omega)
        have es : s0 + 1 + (ws[a + i].length : Nat) = ((size ws a (a + (i + 1)) : Nat) : Int) := by
          rcases f2 with ⟨g1, g2⟩ | ⟨g1, g2, g3⟩
          · subst g1
            have := size_one ws (show a < ws.length by omega)
            show s0 + 1 + ((ws[a].length : Nat) : Int) = ((size ws a (a + 1) : Nat) : Int)
            rw [this, g2]; omega
          · have := size_snoc ws (show a < a + i by omega) hc
            rw [show a + (i + 1) = a + i + 1 by omega, this, g2]; omega
        have hsz := hw.size a (a + (i + 1))
        refine (show gName 7 (V.int ((a : Int) + 1 + (i : Int))) _ _ _ from ?_)
        rw [e1]
        refine ⟨_, rfl, _, _, rfl, rfl, _, rfl, _, rfl, _, _, rfl, rfl, p, _, _, _, rfl, rfl, hS, at_of (show ((a + (i + 1) : Nat) : Int) - 1 = ((a + i : Nat) : Int) by omega) gc, tx ws[a + i], rfl, by rw [tx_len]; exact sz (by have := hw.wl (List.getElem_mem hc); omega), ?_⟩
        rw [tx_len]
        refine rI0_at (v := .int (size ws a (a + (i + 1)) : Nat)) (congrArg V.int es) ?_
        refine ⟨_, rfl, _, rfl, _, _, rfl, rfl, _, rfl, tst (c := n < (size ws a (a + (i + 1)) : Nat)) rfl (fun h1 => ?_) (fun h1 => ?_)⟩
        · -- a break: the best end is behind us
          have hbe' : be ≤ a + i := by
            rcases Nat.lt_or_ge (a + i) be with l | l
            · have := size_mono (ws := ws) (Nat.le_refl a) (show a < a + (i + 1) by omega) (show a + (i + 1) ≤ be by omega) hbe.2.1
              have := hbe.2.2.1
              omega
            · exact l
          have := f3 hbe'
          subst this
          exact ⟨_, rfl, fin _ _⟩
        · obtain ⟨bb, hbb⟩ : ∃ bb, decide (((a + (i + 1) : Nat) : Int) < ((vts ws).length : Nat)) = bb := ⟨_, rfl⟩
          have hbb' : bb = decide (a + (i + 1) < ws.length) := by rw [← hbb, List.length_map]; simp only [decide_eq_decide]; omega
          have hpr := b2_pr (ws := ws) (wd := n) (a := a) (e := a + (i + 1)) bb hbb' (by omega)
          refine ⟨_, rfl, _, rfl, t, _, _, _, rfl, rfl, hT, atI_nat ga, _, rfl, _, rfl, t, _, _, _, rfl, rfl, hT, atI_nat gt, _, rfl, _, rfl, _, _, rfl, rfl, _, _, rfl, rfl, by decide, hn.pow (by omega), ?_⟩
          rw [pow_two']
          refine ⟨_, rfl, _, rfl, p, _, rfl, .inl hS, _, _, rfl, rfl, .inr ⟨_, rfl, ?_⟩⟩
          rw [hbb]
          refine rI_at (v := .int (pr ws n a (a + (i + 1)))) (congrArg V.int hpr) ?_ ?_
          · refine wide_mul (a := 242) (b := 1) (wide_lt (hn.sub (by omega)) (hn.sub (by omega))) ?_ (by decide) (by decide) (by decide)
            cases bb <;> decide
          have hfit : ((size ws a (a + (i + 1)) : Nat) : Int) ≤ n := by omega
          have hle2 := hbe.2.2.2 (a + (i + 1)) (by omega) (by omega) hfit
          refine ⟨_, _, rfl, rfl, rfl, _, rfl, tst (c := tb xs a = tb xs (a + (i + 1)) + pr ws n a (a + (i + 1))) dec_vi (fun h2 => ?_) (fun h2 => ?_)⟩
          · have h3 := hle2.2 (by omega)
            exact ⟨_, rfl, rfl, _, a + (i + 1), _, rfl, by omega, .inr ⟨by omega, rfl, hfit⟩, fun z => by omega⟩
          · refine ⟨rfl, _, g, _, rfl, by omega, .inr ⟨by omega, rfl, hfit⟩, fun z => ?_⟩
            rcases Nat.lt_or_ge (a + i) be with l | l
            · have : be = a + (i + 1) := by omega
              subst this
              omega
            · exact f3 l
      · rintro σ H2 ⟨rfl, s0, g, x5, rfl, f1, f2, f3⟩
        have := f3 (by rw [List.length_map]; have := hbe.2.1; omega)
        subst this
        exact ⟨_, rfl, fin _ _⟩
    · refine ⟨_, rfl, q H' D ks s2 hD eD2 ?_⟩
      have := hk [] (show a = ws.length by omega)
      rw [List.append_nil] at this; exact this

def sp__law_page_width : Sp := fun vs H Q _ => ∃ c : Int, vs = [.int c] ∧ ∀ H' n, Same H H' → 1 ≤ n → n ≤ 10 ^ 30 → Q (.int n) H'
theorem ok__law_page_width (A : At K mg "_law_page_width" ["_law_cell"] st__law_page_width) (T : Bts mg) : Ok P w K mg base CX0 1 "_law_page_width" ["_law_cell"] sp__law_page_width := by
  refine A.ok sc__law_page_width (fun vs H Q E h => ?_) (fun f cdv A outer s H vs Q E hr h => ?_)
  · obtain ⟨c, rfl, _⟩ := h; rfl
  · obtain ⟨c, rfl, q⟩ := h
    refine ⟨_, (pss_cons (ps_if (pt_cmpR op_eq (pe_op op_mod (pe_op op_fdiv (pv 0) pe_int) pe_int) pe_int (nomark _)) (pss_one (ps_ret (pe_ix (ix_listK K) (pe_lst (pa_cons (pe_op op_add pe_int (pe_op op_mod (pe_op op_fdiv (pv 0) pe_int) pe_int)) (pa_cons (pe_op op_powW pe_int pe_int) pa_nil))) (pe_op op_fdiv (pe_op op_mod (pe_op op_fdiv (pv 0) pe_int) pe_int) pe_int) (fun _ _ => rfl)))) pss_nil)
      (pss_one (ps_ret (pe_op op_add pe_int (pe_op op_mod (pv 0) pe_int))))), ?_⟩
    have h30 : (10 : Int) ^ (30 : Int).toNat = 10 ^ 30 := by decide
    refine ⟨_, rfl, _, _, rfl, rfl, ⟨by decide, by decide⟩, _, _, rfl, rfl, (show (0 : Int) < 3 by decide), rfl, _, rfl, tst (c := c / 24 % 3 = 1) dec_vi (fun n1 => ?_) (fun n1 => ?_)⟩
    · refine ⟨_, rfl, _, _, rfl, rfl, ⟨by decide, by decide⟩, _, _, rfl, rfl, (show (0 : Int) < 120 by decide), _, _, rfl, rfl, _, _, rfl, rfl, by decide, by decide +kernel, sz (by simp), fun l nl => ?_⟩
      obtain ⟨j, hj⟩ : ∃ j : Nat, c / 72 % 5 / 4 = (j : Int) := ⟨(c / 72 % 5 / 4).toNat, by omega⟩
      have hv : ∃ v : Int, ([V.int (25 + c / 72 % 120), V.int (10 ^ (30 : Int).toNat)])[j]? = some (.int v) ∧ 1 ≤ v ∧ v ≤ 10 ^ 30 := by
        rcases (show j = 0 ∨ j = 1 by omega) with z | z <;> subst z
        · exact ⟨_, rfl, by omega, by omega⟩
        · exact ⟨_, rfl, by rw [h30]; decide, by rw [h30]; exact Int.le_refl _⟩
      obtain ⟨v, hv, v1, v2⟩ := hv
      exact ⟨_, rfl, _, _, rfl, rfl, ⟨by decide, by decide⟩, _, _, rfl, rfl, (show (0 : Int) < 5 by decide), _, _, rfl, rfl, ⟨by decide, by decide⟩, l, _, _, _, rfl, rfl, .of upd_same, at_of hj hv, q _ _ ((Same.refl H).new nl) v1 v2⟩
    · exact ⟨_, rfl, _, _, rfl, rfl, (show (0 : Int) < 24 by decide), _, _, rfl, rfl, q _ _ (Same.refl H) (by omega) (by omega)⟩

theorem page_made {C : Addr} {H H' : Hp} {x dx r t q : Addr} {n : Int} {fs : List (Str × V)} (nx : H x = none) (ndx : H dx = none) (F : PgF fs n r t q) (ep : H' x = some (.ins C dx fs))
    (nr : (upd (upd H dx (.own x)) x (.ins C dx [])) r = none) (nt : (upd (upd H dx (.own x)) x (.ins C dx [])) t = none) (nq : (upd (upd H dx (.own x)) x (.ins C dx [])) q = none) (rq : r ≠ q) (tq : t ≠ q)
    (er : H' r = some (.lst (vts []))) (et : H' t = some (.lst (vis [0]))) (eq : H' q = some (.lst [])) (k : ∀ b o, b ≠ x → (upd (upd H dx (.own x)) x (.ins C dx [])) b = some o → H' b = some o) (h1 : 1 ≤ n) (hw : Wb n) :
    Same H H' ∧ H q = none ∧ ∀ Mu, Live Mu H → PgAt C (x :: q :: Mu) H' x q ⟨([], n), []⟩ := by
  have fr : ∀ {y}, (upd (upd H dx (.own x)) x (.ins C dx [])) y = none → y ≠ x ∧ H y = none := fun {y} e => by
    have h1 : y ≠ x := fun z => by rw [z, upd_same] at e; cases e
    rw [upd_ne h1] at e
    have h2 : y ≠ dx := fun z => by rw [z, upd_same] at e; cases e
    rw [upd_ne h2] at e; exact ⟨h1, e⟩
  have sm : Same H H' := fun b o e => by
    have h1 : b ≠ x := fun z => by rw [z, nx] at e; cases e
    have h2 : b ≠ dx := fun z => by rw [z, ndx] at e; cases e
    exact k b o h1 (by rw [upd_ne h1, upd_ne h2]; exact e)
  obtain ⟨rx, nr0⟩ := fr nr
  obtain ⟨tx', nt0⟩ := fr nt
  obtain ⟨qx, nq0⟩ := fr nq
  refine ⟨sm, nq0, fun Mu lv => ?_⟩
  have nin : ∀ {y}, y ≠ x → y ≠ q → H y = none → y ∉ x :: q :: Mu := fun {y} h1 h2 h3 z => by
    rcases List.mem_cons.mp z with z | z
    · exact h1 z
    · rcases List.mem_cons.mp z with z | z
      · exact h2 z
      · exact lv y z h3
  refine ⟨⟨⟨by simp, fun y hy => (nomatch hy), hw, h1, fun y hy => (nomatch hy)⟩, fun y hy => (nomatch hy), by simp⟩, by simp, by simp, Ne.symm qx, fun b hb z => ?_, ⟨dx, fs, r, t, ep, F, ⟨er, nin rx rq nr0⟩, [0], ⟨et, nin tx' tq nt0⟩, rfl, rfl, fun a ha => absurd ha (Nat.not_lt_zero _)⟩, ⟨[], eq, rfl, fun y hy => (nomatch hy)⟩⟩
  rcases List.mem_cons.mp hb with y | y
  · rw [y, ep] at z; cases z
  · rcases List.mem_cons.mp y with y | y
    · rw [y, eq] at z; cases z
    · exact lv b y (sm.free z)
def sp__law_page_by (C : Addr) : Sp := fun vs H Q _ => ∃ n : Int, vs = [.int n] ∧ Wb n ∧ (n < 1 → ∀ H', Same H H' → Q (.int 1) H') ∧
  (1 ≤ n → ∀ H' p q, Same H H' → H p = none → H q = none → (∀ Mu, Live Mu H → PgAt C (p :: q :: Mu) H' p q ⟨([], n), []⟩) → Q (.ref p) H')
theorem ok__law_page_by {C : Addr} {ea : EA} (A : At K mg "_law_page_by" ["_law_width"] st__law_page_by) (T : Bts mg) (X : Xs K mg ea) (PM : PgM K mg C) (EN : PySem.W.exmOne K (.ref ea.nw) (.ref ea.nw) = some true)
    (G_Page___init__ : OkM P w K mg base (CXn P w) 2 C "__init__" ["self", "width"] (sp_Page___init__ ea C)) : Ok P w K mg base CX0 4 "_law_page_by" ["_law_width"] (sp__law_page_by C) := by
  refine A.ok sc__law_page_by (fun vs H Q E h => ?_) (fun f cdv A outer s H vs Q E hr h => ?_)
  · obtain ⟨n, rfl, _⟩ := h; rfl
  · obtain ⟨n, rfl, hw, q1, q2⟩ := h
    refine ⟨_, (pss_one (L2N.ps_try_as (i := 1) rfl rfl sc__law_page_by.nd rfl rfl ⟨rfl, by decide, .inl X.c_NoWidth.g⟩ takesN (fun W pn xe tk _ => (pss_one (ps_ret (pe_mkS G_Page___init__ PM.mkC (hr.mono (by decide)) PM.g (fun z => L2N.passAt tk z) (pa_cons (pv 0) pa_nil))))) (fun a oe cls d pn hz hf => (pss_one (ps_ret (pe_callTy call_int1 (by rfl) T.m_int (by decide +kernel) (pa_cons (pe_and (pe_callB (call_isQ hz hf) (by rfl) T.m_isinstance (by decide +kernel) (pa_cons (pv 1) (pa_cons (pe_glob (v := .ref _) rfl X.g_wrap rfl) pa_nil))) (pe_one (pe_callB (call_isQ hz hf) (by rfl) T.m_isinstance (by decide +kernel) (pa_cons (pv 1) (pa_cons (pe_bltn (v := .ty "ValueError") (u := .type "ValueError") (by rfl) T.m_ValueError (by decide +kernel) rfl) pa_nil))))) pa_nil))))))), ?_⟩
    refine ⟨_, rfl, fun x dx nx ndx hx => ?_⟩
    refine ⟨x, dx, n, rfl, upd_same, fun n1 => ?_, fun n1 H' fs r t q F ep nr nt nq rt rq tq er et eq k => ?_⟩
    · refine ⟨true, EN, fun _ a na => ?_, fun z => nomatch z⟩
      refine ⟨_, rfl, ea.nw, .ref ea.wrap, .ref ea.wrap, true, rfl, rfl, (X.c (i := 0) (by decide)).1, rfl, fun u r => r, (X.c (i := 0) (by decide)).2.2.2, true, rfl, iteT ?_⟩
      refine ⟨_, rfl, ea.nw, .ty "ValueError", .type "ValueError", true, rfl, rfl, (X.c (i := 0) (by decide)).1, rfl, fun u r => r, (X.c (i := 0) (by decide)).2.2.1, .inr ⟨_, rfl, ?_⟩⟩
      refine q1 n1 _ fun b o e => ?_
      have h1 : b ≠ x := fun z => by rw [z, nx] at e; cases e
      have h2 : b ≠ dx := fun z => by rw [z, ndx] at e; cases e
      rw [upd_ne h1, upd_ne h2]; exact e
    · obtain ⟨s1, nq0, pg⟩ := page_made nx ndx F ep nr nt nq rq tq er et eq k n1 hw
      exact ⟨rfl, q2 n1 H' x q s1 nx nq0 pg⟩

def flagSum (i : Nat) : Int := ((List.range 10).map fun k : Nat => (11 + (k : Int)) * (if (i == k) = true then 1 else 0)).sum
theorem flagSum_eq {i : Nat} (h : i < 10) : flagSum i = 11 + i := by
  have : ∀ i : Fin 10, flagSum i.1 = 11 + (i.1 : Int) := by decide +kernel
  exact this ⟨i, h⟩
theorem ok__law_kind {ea : EA} (A : At K mg "_law_kind" ["_law_e"] st__law_kind) (T : Bts mg) (X : Xs K mg ea) : Kinds P w K mg base ea 1 "_law_kind" "_law_e" := by
  obtain ⟨f, fd, g, F, b⟩ := A.ex
  refine ⟨f, fd, g, F.kp, b, fun i hi => kindFn_of F sc__law_kind fun cdv A outer s H E p Q hot1 hz hr q => ?_⟩
  have hC := (X.c hi).1
  have D := X.d hi
  have hf : ∃ vs, p.2.data = .fields vs := hot1.2.elim fun v z => ⟨v, z.1⟩
  have hp : p ∈ (L2H.cxH CX0 P w K mg base N__law_kind "_law_kind" (defScope st__law_kind) f cdv A outer s H E p).pn := List.mem_cons_self
  have hot : L2H.HotC (L2H.cxH CX0 P w K mg base N__law_kind "_law_kind" (defScope st__law_kind) f cdv A outer s H E p) := ⟨p, hot1, List.mem_cons_self⟩
  have tY : ∀ {C : Addr} (u : Value), RelV (.ref C) u → u = .ref C := fun u r => r
  refine ⟨_, (pss_cons (ps_set (i := 1) sc__law_kind.nd rfl (Or.inr rfl) (pe_lst (pa_cons (pe_callB (call_isP hC hz hf hp) (by rfl) T.m_isinstance (by decide +kernel) (pa_cons (pv 0) (pa_cons (pe_glob (v := .ref _) rfl X.c_NoWidth.g rfl) pa_nil))) (pa_cons (pe_callB (call_isP hC hz hf hp) (by rfl) T.m_isinstance (by decide +kernel) (pa_cons (pv 0) (pa_cons (pe_glob (v := .ref _) rfl X.c_LongWord.g rfl) pa_nil))) (pa_cons (pe_callB (call_isP hC hz hf hp) (by rfl) T.m_isinstance (by decide +kernel) (pa_cons (pv 0) (pa_cons (pe_glob (v := .ref _) rfl X.c_NoStarts.g rfl) pa_nil))) (pa_cons (pe_callB (call_isP hC hz hf hp) (by rfl) T.m_isinstance (by decide +kernel) (pa_cons (pv 0) (pa_cons (pe_glob (v := .ref _) rfl X.c_TooWide.g rfl) pa_nil))) pa_nil))))))
      (pss_cons (ps_set (i := 1) sc__law_kind.nd rfl (Or.inr rfl) (pe_op op_cat (pv 1) (pe_lst (pa_cons (pe_callB (call_isP hC hz hf hp) (by rfl) T.m_isinstance (by decide +kernel) (pa_cons (pv 0) (pa_cons (pe_glob (v := .ref _) rfl X.c_TooFew.g rfl) pa_nil))) (pa_cons (pe_callB (call_isP hC hz hf hp) (by rfl) T.m_isinstance (by decide +kernel) (pa_cons (pv 0) (pa_cons (pe_glob (v := .ref _) rfl X.c_TooMany.g rfl) pa_nil))) (pa_cons (pe_callB (call_isP hC hz hf hp) (by rfl) T.m_isinstance (by decide +kernel) (pa_cons (pv 0) (pa_cons (pe_glob (v := .ref _) rfl X.c_NoPlace.g rfl) pa_nil))) (pa_cons (pe_callB (call_isP hC hz hf hp) (by rfl) T.m_isinstance (by decide +kernel) (pa_cons (pv 0) (pa_cons (pe_glob (v := .ref _) rfl X.c_NoWord.g rfl) pa_nil))) pa_nil)))))))
      (pss_cons (ps_set (i := 1) sc__law_kind.nd rfl (Or.inr rfl) (pe_op op_cat (pv 1) (pe_lst (pa_cons (pe_callB (call_isP hC hz hf hp) (by rfl) T.m_isinstance (by decide +kernel) (pa_cons (pv 0) (pa_cons (pe_glob (v := .ref _) rfl X.c_Full.g rfl) pa_nil))) (pa_cons (pe_callB (call_isP hC hz hf hp) (by rfl) T.m_isinstance (by decide +kernel) (pa_cons (pv 0) (pa_cons (pe_glob (v := .ref _) rfl X.c_NoWayBack.g rfl) pa_nil))) pa_nil)))))
      (pss_one (ps_ret (pe_callB (cr_sumH hot) (by rfl) T.m_sum (by decide +kernel) (pa_cons (pe_lcH (own := [("_law_k", 2)]) (g := gName 2) (tt := tYes) hot sc__law_kind.nd (L2H.pi_range1H (by rfl) T.m_range (pa_cons pe_int pa_nil)) (blkOk_by (own := [("_law_k", 2)]) (N := N__law_kind) (sc := defScope st__law_kind) (by decide +kernel)) (fun _ _ _ _ _ => pg_name (i := 2) sc__law_kind.nd rfl (Or.inl rfl)) (fun _ _ _ _ _ => pts_nil) (fun _ _ _ _ _ => (pe_op op_mul (pe_op op_add pe_int (pv 2)) (pe_callTy call_int1 (by rfl) T.m_int (by decide +kernel) (pa_cons (pe_ix (ix_listK K) (pv 1) (pv 2) (fun _ _ => rfl)) pa_nil))))) pa_nil))))))), ?_⟩
  refine ⟨_, rfl, _, _, _, rfl, tY, D.k0, _, rfl, _, _, _, rfl, tY, D.k1, _, rfl, _, _, _, rfl, tY, D.k2, _, rfl, _, _, _, rfl, tY, D.k3, sz (by simp), fun l1 n1 => ?_⟩
  refine ⟨_, rfl, _, rfl, _, _, _, rfl, tY, D.k4, _, rfl, _, _, _, rfl, tY, D.k5, _, rfl, _, _, _, rfl, tY, D.k6, _, rfl, _, _, _, rfl, tY, D.k7, sz (by simp), fun l2 n2 => ?_⟩
  have s1 := (Same.refl H).new (o := HO.lst [V.bl (i == 0), V.bl (i == 1), V.bl (i == 2), V.bl (i == 3)]) n1
  have s2 := s1.new (o := HO.lst [V.bl (i == 4), V.bl (i == 5), V.bl (i == 6), V.bl (i == 7)]) n2
  refine ⟨l1, l2, _, _, rfl, rfl, kept upd_same n2, upd_same, sz (by simp), fun l3 n3 => ?_⟩
  have s3 := s2.new (o := HO.lst ([V.bl (i == 0), V.bl (i == 1), V.bl (i == 2), V.bl (i == 3)] ++ [V.bl (i == 4), V.bl (i == 5), V.bl (i == 6), V.bl (i == 7)])) n3
  refine ⟨_, rfl, _, rfl, _, _, _, rfl, tY, D.k8, _, rfl, _, _, _, rfl, tY, D.k9, sz (by simp), fun l4 n4 => ?_⟩
  have s4 := s3.new (o := HO.lst [V.bl (i == 8), V.bl (i == 9)]) n4
  refine ⟨l3, l4, _, _, rfl, rfl, kept upd_same n4, upd_same, sz (by simp), fun l5 n5 => ?_⟩
  have s5 := s4.new (o := HO.lst (([V.bl (i == 0), V.bl (i == 1), V.bl (i == 2), V.bl (i == 3)] ++ [V.bl (i == 4), V.bl (i == 5), V.bl (i == 6), V.bl (i == 7)]) ++ [V.bl (i == 8), V.bl (i == 9)])) n5
  have e5 : (upd (upd (upd (upd (upd H l1 (.lst [V.bl (i == 0), V.bl (i == 1), V.bl (i == 2), V.bl (i == 3)])) l2 (.lst [V.bl (i == 4), V.bl (i == 5), V.bl (i == 6), V.bl (i == 7)])) l3
      (.lst ([V.bl (i == 0), V.bl (i == 1), V.bl (i == 2), V.bl (i == 3)] ++ [V.bl (i == 4), V.bl (i == 5), V.bl (i == 6), V.bl (i == 7)]))) l4 (.lst [V.bl (i == 8), V.bl (i == 9)])) l5
      (.lst (([V.bl (i == 0), V.bl (i == 1), V.bl (i == 2), V.bl (i == 3)] ++ [V.bl (i == 4), V.bl (i == 5), V.bl (i == 6), V.bl (i == 7)]) ++ [V.bl (i == 8), V.bl (i == 9)]))) l5 =
      some (.lst ((List.range 10).map fun k => V.bl (i == k))) := upd_same
  generalize (upd (upd (upd (upd (upd H l1 (.lst [V.bl (i == 0), V.bl (i == 1), V.bl (i == 2), V.bl (i == 3)])) l2 (.lst [V.bl (i == 4), V.bl (i == 5), V.bl (i == 6), V.bl (i == 7)])) l3
      (.lst ([V.bl (i == 0), V.bl (i == 1), V.bl (i == 2), V.bl (i == 3)] ++ [V.bl (i == 4), V.bl (i == 5), V.bl (i == 6), V.bl (i == 7)]))) l4 (.lst [V.bl (i == 8), V.bl (i == 9)])) l5
      (.lst (([V.bl (i == 0), V.bl (i == 1), V.bl (i == 2), V.bl (i == 3)] ++ [V.bl (i == 4), V.bl (i == 5), V.bl (i == 6), V.bl (i == 7)]) ++ [V.bl (i == 8), V.bl (i == 9)]))) = H5 at s5 e5 ⊢
  refine ⟨10, rfl, by decide, by decide, fun D0 nD => ?_⟩
  refine lc_range (lo := 0) (n := 10) (fun m H' => Same H5 H' ∧ H' D0 = some (.lst (vis ((List.range m).map fun k : Nat => (11 + (k : Int)) * (if (i == k) = true then 1 else 0))))) ?_ ?_ ?_
  · exact ⟨(Same.refl H5).new nD, upd_same⟩
  · rintro m H' hm ⟨s6, e6⟩
    have g : ((List.range 10).map fun k => V.bl (i == k))[m]? = some (V.bl (i == m)) := by
      rw [List.getElem?_map, List.getElem?_range hm]; rfl
    refine ⟨rfl, ?_⟩
    refine ⟨_, rfl, _, _, rfl, rfl, _, rfl, _, rfl, _, _, _, _, rfl, rfl, .of (s6 _ _ e5), at_of (by omega) g, .inr ⟨_, rfl, _, _, rfl, rfl, .inl ⟨by omega, by omega⟩, ?_⟩⟩
    refine ⟨_, e6, by simp; exact szl (by omega), s6.put nD, ?_⟩
    rw [upd_same, List.range_succ, List.map_append, ← vis_app]
    have e0 : (11 + (0 + (m : Int))) = 11 + (m : Int) := by omega
    simp only [e0, List.map_cons, List.map_nil]
  · rintro H' ⟨s6, e6⟩
    refine ⟨_, _, rfl, .of e6, ?_⟩
    have e7 := flagSum_eq hi
    unfold flagSum at e7
    rw [e7]
    exact q H' (s5.trans s6)

theorem kp2 {H H' : Hp} {p q : Addr} (k : ∀ b o, b ≠ p → b ≠ q → H b = some o → H' b = some o) : Kp [p, q] H H' := fun b o n e =>
  k b o (fun z => n (by rw [z]; exact List.mem_cons_self)) (fun z => n (by rw [z]; exact List.mem_cons_of_mem _ List.mem_cons_self)) e
theorem PgAt.sub {C : Addr} {Mu : List Addr} {H : Hp} {p q : Addr} {m : Mo} (h : PgAt C Mu H p q m) : ∀ x ∈ [p, q], x ∈ Mu := fun x hx => by
  rcases List.mem_cons.mp hx with z | z
  · rw [z]; exact h.pm
  · rw [List.mem_singleton.mp z]; exact h.qm
/-- a page behind a deed -/
theorem PgAt.to {C : Addr} {Mu : List Addr} {H H' : Hp} {p q : Addr} {m m' : Mo} (h : PgAt C Mu H p q m) {dx' r' t' : Addr} {fs' : List (Str × V)} (ok : m'.ok) (k : Kp [p, q] H H')
    (e1 : H' p = some (.ins C dx' fs')) (F : PgF fs' m'.st.2 r' t' q) (row' : RowAt Mu H' r' t' m'.st) {L' : List PE4} (eq : H' q = some (.lst (L'.map fun e => V.ref e.1))) (eL : m'.past = L'.map fun e => e.2.2.2)
    (hL : ∀ e ∈ L', PastAt Mu H' e) : PgAt C Mu H' p q m' := by
  refine ⟨ok, h.pm, h.qm, h.pq, fun b hb z => ?_, ⟨dx', fs', r', t', e1, F, row'⟩, ⟨L', eq, eL, hL⟩⟩
  by_cases hp : b = p
  · rw [hp, e1] at z; cases z
  by_cases hq : b = q
  · rw [hq, eq] at z; cases z
  exact h.live b hb (k.free (by simp [hp, hq]) z)
def sp__law_told (C : Addr) : Sp := fun vs H Q _ => ∃ (Mu : List Addr) (p q d : Addr) (m : Mo) (deed : Deed), vs = [.ref p, .ref d] ∧ PgAt C Mu H p q m ∧ Fz Mu H d (.tup deed.vals) ∧ deed.ok ∧ m.past.length < 100000 ∧
  ∀ H', Kp [p, q] H H' → PgAt C Mu H' p q (nxt m deed) → Q (if due m deed = 0 then ans m deed else .int (due m deed : Nat)) H'
theorem ok__law_told {C : Addr} {ea : EA} (A : At K mg "_law_told" ["_law_page", "_law_deed"] st__law_told) (T : Bts mg) (X : Xs K mg ea) (PG : PgC K C) (G__law_kind : Kinds P w K mg base ea 1 "_law_kind" "_law_e")
    (G_Page_put : OkM P w K mg base (CXn P w) 5 C "put" ["self", "at", "word"] (sp_Page_put ea C)) (G_Page_drop : OkM P w K mg base (CXn P w) 5 C "drop" ["self", "at"] (sp_Page_drop ea C))
    (G_Page_widen : OkM P w K mg base (CXn P w) 5 C "widen" ["self", "width"] (sp_Page_widen K ea C)) (G_Page_undo : OkM P w K mg base (CXn P w) 1 C "undo" ["self"] (sp_Page_undo ea C)) :
    Ok P w K mg base CX0 6 "_law_told" ["_law_page", "_law_deed"] (sp__law_told C) := by
  refine A.ok sc__law_told (fun vs H Q E h => ?_) (fun f cdv A outer s H vs Q E hr h => ?_)
  · obtain ⟨Mu, p, q, d, m, deed, rfl, _⟩ := h; rfl
  · obtain ⟨Mu, p, q, d, m, deed, rfl, pg, fd, ok, hl, k⟩ := h
    refine ⟨_, (pss_one (L2N.ps_try_as (i := 2) rfl rfl sc__law_told.nd rfl rfl ⟨rfl, by decide, .inl X.g_wrap⟩ takesN (fun W pn xe tk _ => (pss_cons (ps_if (pt_cmpR op_eq (pe_ix (ix_tupK K) (pv 1) pe_int (fun _ _ => rfl)) pe_str (nomark _)) (pss_one (ps_ret (pe_mdS (pv 0) PG.cl G_Page_put (hr.mono (by decide)) (fun z => L2N.passAt tk z) (pa_cons (pe_ix (ix_tupK K) (pv 1) pe_int (fun _ _ => rfl)) (pa_cons (pe_ix (ix_tupK K) (pv 1) pe_int (fun _ _ => rfl)) pa_nil))))) pss_nil)
      (pss_cons (ps_if (pt_cmpR op_eq (pe_ix (ix_tupK K) (pv 1) pe_int (fun _ _ => rfl)) pe_str (nomark _)) (pss_one (ps_ret (pe_mdS (pv 0) PG.cl G_Page_drop (hr.mono (by decide)) (fun z => L2N.passAt tk z) (pa_cons (pe_ix (ix_tupK K) (pv 1) pe_int (fun _ _ => rfl)) pa_nil)))) pss_nil)
      (pss_cons (ps_if (pt_cmpR op_eq (pe_ix (ix_tupK K) (pv 1) pe_int (fun _ _ => rfl)) pe_str (nomark _)) (pss_one (ps_ret (pe_mdS (pv 0) PG.cl G_Page_widen (hr.mono (by decide)) (fun z => L2N.passAt tk z) (pa_cons (pe_ix (ix_tupK K) (pv 1) pe_int (fun _ _ => rfl)) pa_nil)))) pss_nil)
      (pss_one (ps_ret (pe_md0S (pv 0) PG.cl G_Page_undo (hr.mono (by decide)) (fun z => L2N.passAt tk z)))))))) (fun a oe cls d pn hz hf => (pss_one (ps_ret (pe_kind G__law_kind hr (by decide) hz hf (pa_cons (pv 2) pa_nil))))))), ?_⟩
    obtain ⟨dx, fs, r, t, e1, F, row⟩ := pg.ex
    obtain ⟨L, eq, eL, hL⟩ := pg.past
    obtain ⟨xs, ft, xl, tab⟩ := row.t
    have mok := pg.ok
    have ed := fd.1
    have fin : ∀ H1, Same H H1 → ∀ j : Nat, due m deed = j → j ≠ 0 → Q (.int j) H1 := fun H1 s1 j e1 e2 => by
      have h1 := k H1 (Kp.of s1) (by unfold nxt; rw [if_neg (by rw [e1]; exact e2)]; exact pg.same s1)
      rw [if_neg (by rw [e1]; exact e2), e1] at h1; exact h1
    have done : due m deed = 0 → ∀ H', Kp [p, q] H H' → PgAt C Mu H' p q (aft m deed) → Q (ans m deed) H' := fun e H' k1 pg' => by
      have h1 := k H' k1 (by unfold nxt; rw [if_pos e]; exact pg')
      rw [if_pos e] at h1; exact h1
    have aok : due m deed = 0 → (aft m deed).ok := fun e => aft_ok mok ok e hl
    have rq : r ≠ q := fun z => row.r.2 (by rw [z]; exact pg.qm)
    have tq : t ≠ q := fun z => ft.2 (by rw [z]; exact pg.qm)
    have hLl : (L.map fun e => V.ref e.1).length < 1000000 := by
      have h1 : L.length = m.past.length := by rw [eL, List.length_map]
      rw [List.length_map]; omega
    -- what stays of the past, and the new entry
    have ents : ∀ {H' a}, Kp [p, q] H H' → H a = none → H' a = some (.tup [.ref r, .int m.st.2, .ref t]) → ∀ e ∈ L ++ [((a, r, t, m.st) : PE4)], PastAt Mu H' e := fun {H' a} k1 na ea e he => by
      rcases List.mem_append.mp he with z | z
      · exact (hL e z).keep k1 pg.sub
      · rw [List.mem_singleton.mp z]
        exact ⟨⟨ea, pg.live.nin na⟩, row.keep k1 pg.sub⟩
    have mapE : ∀ a, L.map (fun e => V.ref e.1) ++ [.ref a] = (L ++ [((a, r, t, m.st) : PE4)]).map fun e => V.ref e.1 := fun a => by rw [List.map_append]; rfl
    have pstE : ∀ a, m.past ++ [m.st] = (L ++ [((a, r, t, m.st) : PE4)]).map fun e => e.2.2.2 := fun a => by rw [List.map_append, eL]; rfl
    have nofs : ∀ m : Str, m ≠ ("width" : Str) → m ≠ ("row" : Str) → m ≠ ("table" : Str) → m ≠ ("past" : Str) → fs.lookup m = none := F.no
    cases deed with
    | put i x =>
      refine ⟨_, rfl, d, _, ((0 : Nat) : Int), _, rfl, rfl, .of ed, rfl, rfl, _, rfl, tst (c := ("put" : Str) = "put") (nmE _ _) (fun _ => ?_) (fun z => absurd rfl z)⟩
      refine ⟨_, rfl, p, dx, fs, rfl, e1, F.no _ (by decide +kernel) (by decide +kernel) (by decide +kernel) (by decide +kernel), _, rfl, d, _, ((1 : Nat) : Int), _, rfl, rfl, .of ed, rfl, _, rfl, d, _, ((2 : Nat) : Int), _, rfl, rfl, .of ed, rfl, ?_⟩
      refine ⟨p, dx, r, t, q, fs, m.st.2, i, x, m.st.1, xs, _, rfl, e1, F, row.r.1, ft.1, rq, tq, eq, hLl, pg.pq, mok.st.bw, mok.st.le, by have := mok.st.tot; omega, mok.st.wb, mok.st.ft, xl, tab, ok.1, by have := ok.2; omega, ?_, ?_, ?_, ?_, ?_⟩
      · intro h1
        exact ⟨true, (X.c (i := 6) (by decide)).2.1, fun _ a na => ⟨_, rfl, 6, by decide, rfl, rfl, rfl, fun H1 s1 => fin H1 s1 17 (due_put17 h1) (by decide)⟩, fun z => nomatch z⟩
      · intro h1 h2
        exact ⟨true, (X.c (i := 7) (by decide)).2.1, fun _ a na => ⟨_, rfl, 7, by decide, rfl, rfl, rfl, fun H1 s1 => fin H1 s1 18 (due_put18 h1 h2) (by decide)⟩, fun z => nomatch z⟩
      · intro h1 h2 h3
        exact ⟨true, (X.c (i := 1) (by decide)).2.1, fun _ a na => ⟨_, rfl, 1, by decide, rfl, rfl, rfl, fun H1 s1 => fin H1 s1 12 (due_put12 h1 h2 h3) (by decide)⟩, fun z => nomatch z⟩
      · intro h1 h2 h3 h4
        exact ⟨true, (X.c (i := 8) (by decide)).2.1, fun _ a na => ⟨_, rfl, 8, by decide, rfl, rfl, rfl, fun H1 s1 => fin H1 s1 19 (due_put19 h1 h2 (by omega) (by omega)) (by decide)⟩, fun z => nomatch z⟩
      · intro j hj ei hg h3 h4 H' fs' r' t' a xs' F' e1' eq' na ea' nr' er' nt' et' xl' tab' kk
        subst ei
        have h0 : due m (.put (j : Int) x) = 0 := due_put0 ⟨by omega, by omega⟩ hg (by omega) (by omega)
        have k1 := kp2 kk
        refine done h0 H' k1 (pg.to (aok h0) k1 e1' F' ⟨⟨er', pg.live.nin nr'⟩, xs', ⟨et', pg.live.nin nt'⟩, ?_, tab'⟩ (by rw [eq', mapE a]) (pstE a) (ents k1 na ea'))
        have h5 := (aok h0).st.le
        show xs'.length = (putAt m.st.1 ((j : Int)).toNat x).length + 1
        unfold putAt
        rw [Int.toNat_natCast, List.length_append, List.length_append, List.length_take, List.length_drop, List.length_singleton]; omega
    | drop i =>
      refine ⟨_, rfl, d, _, ((0 : Nat) : Int), _, rfl, rfl, .of ed, rfl, rfl, _, rfl, tst (c := ("drop" : Str) = "put") (nmE _ _) (fun z => absurd z nDP) (fun _ => ?_)⟩
      refine ⟨_, rfl, d, _, ((0 : Nat) : Int), _, rfl, rfl, .of ed, rfl, rfl, _, rfl, tst (c := ("drop" : Str) = "drop") (nmE _ _) (fun _ => ?_) (fun z => absurd rfl z)⟩
      refine ⟨_, rfl, p, dx, fs, rfl, e1, F.no _ (by decide +kernel) (by decide +kernel) (by decide +kernel) (by decide +kernel), _, rfl, d, _, ((1 : Nat) : Int), _, rfl, rfl, .of ed, rfl, ?_⟩
      refine ⟨p, dx, r, t, q, fs, m.st.2, i, m.st.1, xs, _, rfl, e1, F, row.r.1, ft.1, rq, tq, eq, hLl, pg.pq, mok.st.bw, mok.st.wb, mok.st.ft, xl, tab, ?_, ?_⟩
      · intro h1
        exact ⟨true, (X.c (i := 6) (by decide)).2.1, fun _ a na => ⟨_, rfl, 6, by decide, rfl, rfl, rfl, fun H1 s1 => fin H1 s1 17 (due_drop17 h1) (by decide)⟩, fun z => nomatch z⟩
      · intro j hj ei H' fs' r' t' a xs' F' e1' eq' na ea' nr' er' nt' et' xl' tab' kk
        subst ei
        have h0 : due m (.drop (j : Int)) = 0 := due_drop0 ⟨by omega, by omega⟩
        have k1 := kp2 kk
        have h6 := done h0 H' k1 (pg.to (aok h0) k1 e1' F' ⟨⟨er', pg.live.nin nr'⟩, xs', ⟨et', pg.live.nin nt'⟩, by
          show xs'.length = (dropAt m.st.1 ((j : Int)).toNat).length + 1
          unfold dropAt
          rw [Int.toNat_natCast, List.length_append, List.length_take, List.length_drop]; omega, tab'⟩ (by rw [eq', mapE a]) (pstE a) (ents k1 na ea'))
        have h7 : ans m (.drop (j : Int)) = vt m.st.1[j] := by
          show vt (m.st.1.getD ((j : Int)).toNat []) = _
          rw [Int.toNat_natCast, List.getD_eq_getElem?_getD, List.getElem?_eq_getElem hj]; rfl
        rw [h7] at h6; exact h6
    | widen i =>
      refine ⟨_, rfl, d, _, ((0 : Nat) : Int), _, rfl, rfl, .of ed, rfl, rfl, _, rfl, tst (c := ("widen" : Str) = "put") (nmE _ _) (fun z => absurd z nWP') (fun _ => ?_)⟩
      refine ⟨_, rfl, d, _, ((0 : Nat) : Int), _, rfl, rfl, .of ed, rfl, rfl, _, rfl, tst (c := ("widen" : Str) = "drop") (nmE _ _) (fun z => absurd z nWD) (fun _ => ?_)⟩
      refine ⟨_, rfl, d, _, ((0 : Nat) : Int), _, rfl, rfl, .of ed, rfl, rfl, _, rfl, tst (c := ("widen" : Str) = "widen") (nmE _ _) (fun _ => ?_) (fun z => absurd rfl z)⟩
      refine ⟨_, rfl, p, dx, fs, rfl, e1, F.no _ (by decide +kernel) (by decide +kernel) (by decide +kernel) (by decide +kernel), _, rfl, d, _, ((1 : Nat) : Int), _, rfl, rfl, .of ed, rfl, ?_⟩
      refine ⟨p, dx, r, t, q, fs, m.st.2, i, m.st.1, _, rfl, e1, F, row.r.1, rq, eq, hLl, pg.pq, mok.st.bw, ok, ?_, ?_, ?_⟩
      · intro h1
        exact ⟨true, (X.c (i := 0) (by decide)).2.1, fun _ a na => ⟨_, rfl, 0, by decide, rfl, rfl, rfl, fun H1 s1 => fin H1 s1 11 (due_widen11 h1) (by decide)⟩, fun z => nomatch z⟩
      · intro h1 h2
        exact ⟨true, (X.c (i := 1) (by decide)).2.1, fun _ a na => ⟨_, rfl, 1, by decide, rfl, rfl, rfl, fun H1 s1 => fin H1 s1 12 (due_widen12 (by omega) h2) (by decide)⟩, fun z => nomatch z⟩
      · intro hf H' fs' t' a xs' F' e1' eq' na ea' nt' et' xl' tab' kk
        have h1 := hf.1
        have hlo : longest m.st.1 ≤ i.toNat := longest_le fun w hw => by have := hf.2 w hw; omega
        have h0 : due m (.widen i) = 0 := due_widen0 (by omega) (by omega)
        have k1 := kp2 kk
        exact done h0 H' k1 (pg.to (aok h0) k1 e1' F' ⟨row.r.keep k1 pg.sub, xs', ⟨et', pg.live.nin nt'⟩, xl', tab'⟩ (by rw [eq', mapE a]) (pstE a) (ents k1 na ea'))
    | undo =>
      refine ⟨_, rfl, d, _, ((0 : Nat) : Int), _, rfl, rfl, .of ed, rfl, rfl, _, rfl, tst (c := ("undo" : Str) = "put") (nmE _ _) (fun z => absurd z nUP) (fun _ => ?_)⟩
      refine ⟨_, rfl, d, _, ((0 : Nat) : Int), _, rfl, rfl, .of ed, rfl, rfl, _, rfl, tst (c := ("undo" : Str) = "drop") (nmE _ _) (fun z => absurd z nUD) (fun _ => ?_)⟩
      refine ⟨_, rfl, d, _, ((0 : Nat) : Int), _, rfl, rfl, .of ed, rfl, rfl, _, rfl, tst (c := ("undo" : Str) = "widen") (nmE _ _) (fun z => absurd z nUW) (fun _ => ?_)⟩
      refine ⟨_, rfl, p, dx, fs, rfl, e1, F.no _ (by decide +kernel) (by decide +kernel) (by decide +kernel) (by decide +kernel), ?_⟩
      refine ⟨p, dx, r, t, q, fs, m.st.2, _, rfl, e1, F, eq, pg.pq, fun z H2 s2 => ?_, fun z => ?_⟩
      · have hp : m.past = [] := by rw [eL, List.map_eq_nil_iff.mp z]; rfl
        exact ⟨true, (X.c (i := 9) (by decide)).2.1, fun _ a na => ⟨_, rfl, 9, by decide, rfl, rfl, rfl, fun H1 s1 => fin H1 (s2.trans s1) 20 (due_undo20 hp) (by decide)⟩, fun z => nomatch z⟩
      · have hp : m.past ≠ [] := fun y => z (by rw [y] at eL; rw [List.map_eq_nil_iff.mp eL.symm]; rfl)
        have h0 : due m .undo = 0 := due_undo0 hp
        obtain ⟨L', e, rfl⟩ : ∃ L' e, L = L' ++ [e] := by
          rcases List.eq_nil_or_concat L with y | ⟨L', e, y⟩
          · rw [y] at eL; exact absurd eL hp
          · exact ⟨L', e, by rw [y, List.concat_eq_append]⟩
        have he := hL e (by simp)
        refine ⟨L'.map fun e => V.ref e.1, e.1, e.2.1, e.2.2.2.2, e.2.2.1, by rw [List.map_append]; rfl, he.a.1, fun H' fs' F' e1' eq' kk => ?_⟩
        have k1 := kp2 kk
        have em : aft m .undo = ⟨e.2.2.2, L'.map fun e => e.2.2.2⟩ := by
          show (⟨m.past.getLast?.getD m.st, m.past.dropLast⟩ : Mo) = _
          rw [eL, List.map_append, List.map_singleton, List.dropLast_concat, List.getLast?_concat]; rfl
        refine done h0 H' k1 ?_
        have ao := aok h0
        rw [em] at ao ⊢
        exact pg.to ao k1 e1' F' (he.row.keep k1 pg.sub) eq' rfl fun y hy => (hL y (by simp [hy])).keep k1 pg.sub
    | fill => exact ok.elim

def sp__law_due (K : PySem.W.Frag) : Sp := fun vs H Q _ => ∃ (r q d : Addr) (m : Mo) (deed : Deed) (qs : List V), vs = [.ref r, .int m.st.2, .ref q, .ref d] ∧ H r = some (.lst (vts m.st.1)) ∧ H q = some (.lst qs) ∧ qs.length = m.past.length ∧
  H d = some (.tup deed.vals) ∧ Bw m.st.1 ∧ deed.ok ∧ ∀ H', Same H H' → Q (.int (due m deed : Nat)) H'
theorem ok__law_due (A : At K mg "_law_due" ["_law_row", "_law_width", "_law_past", "_law_deed"] st__law_due) (T : Bts mg) (G__law_longest : Ok P w K mg base CX0 1 "_law_longest" ["_law_row"] (sp__law_longest K)) : Ok P w K mg base CX0 2 "_law_due" ["_law_row", "_law_width", "_law_past", "_law_deed"] (sp__law_due K) := by
  refine A.ok sc__law_due (fun vs H Q E h => ?_) (fun f cdv A outer s H vs Q E hr h => ?_)
  · obtain ⟨r, q, d, m, deed, qs, rfl, _⟩ := h; rfl
  · obtain ⟨r, q, d, m, deed, qs, rfl, er, eq, hq, ed, hb, ok, k⟩ := h
    refine ⟨_, (pss_cons (ps_if (pt_cmpR op_eq (pe_ix (ix_tupK K) (pv 3) pe_int (fun _ _ => rfl)) pe_str (nomark _)) (pss_cons (ps_if (pt_not (pt_chain op_le op_le pe_int (pe_ix (ix_tupK K) (pv 3) pe_int (fun _ _ => rfl)) (pe_callB (call_lenK K) (by rfl) T.m_len PySem.boot_len (pa_cons (pv 0) pa_nil)))) (pss_one (ps_ret pe_int)) pss_nil)
      (pss_cons (ps_if (PW.pt (pw_or (pt_cmpR op_eq (pe_ix (ix_tupK K) (pv 3) pe_int (fun _ _ => rfl)) pe_str (nomark _)) (pw_or (pt_cmpR op_in_sign pe_str (pe_ix (ix_tupK K) (pv 3) pe_int (fun _ _ => rfl)) rfl) (pw_or1 (pt_cmpR op_in_sign pe_str (pe_ix (ix_tupK K) (pv 3) pe_int (fun _ _ => rfl)) rfl))))) (pss_one (ps_ret pe_int)) pss_nil)
      (pss_one (ps_ret (pe_orT (pe_op op_mul pe_int (pe_callTy call_int1 (by rfl) T.m_int (by decide +kernel) (pa_cons (pe_cmpR op_gt (pe_callB call_len_str (by rfl) T.m_len PySem.boot_len (pa_cons (pe_ix (ix_tupK K) (pv 3) pe_int (fun _ _ => rfl)) pa_nil)) (pv 1) (nomark _)) pa_nil))) (pe_one (pe_op op_mul pe_int (pe_callTy call_int1 (by rfl) T.m_int (by decide +kernel) (pa_cons (pe_cmpR op_ge (pe_callB (call_lenK K) (by rfl) T.m_len PySem.boot_len (pa_cons (pv 0) pa_nil)) pe_int (nomark _)) pa_nil))))))))) pss_nil)
      (pss_cons (ps_if (pt_cmpR op_eq (pe_ix (ix_tupK K) (pv 3) pe_int (fun _ _ => rfl)) pe_str (nomark _)) (pss_one (ps_ret (pe_op op_mul pe_int (pe_callTy call_int1 (by rfl) T.m_int (by decide +kernel) (pa_cons (pe_not (pe_chain op_le op_lt pe_int (pe_ix (ix_tupK K) (pv 3) pe_int (fun _ _ => rfl)) (pe_callB (call_lenK K) (by rfl) T.m_len PySem.boot_len (pa_cons (pv 0) pa_nil)))) pa_nil))))) pss_nil)
      (pss_cons (ps_if (pt_cmpR op_eq (pe_ix (ix_tupK K) (pv 3) pe_int (fun _ _ => rfl)) pe_str (nomark _)) (pss_one (ps_ret (pe_orT (pe_op op_mul pe_int (pe_callTy call_int1 (by rfl) T.m_int (by decide +kernel) (pa_cons (pe_cmpR op_lt (pe_ix (ix_tupK K) (pv 3) pe_int (fun _ _ => rfl)) pe_int (nomark _)) pa_nil))) (pe_one (pe_op op_mul pe_int (pe_callTy call_int1 (by rfl) T.m_int (by decide +kernel) (pa_cons (pe_cmpR op_gt (pe_cd G__law_longest (hr.mono (by decide)) pass0 (pa_cons (pv 0) pa_nil)) (pe_ix (ix_tupK K) (pv 3) pe_int (fun _ _ => rfl)) (nomark _)) pa_nil))))))) pss_nil)
      (pss_one (ps_ret (pe_op op_mul pe_int (pe_callTy call_int1 (by rfl) T.m_int (by decide +kernel) (pa_cons (pe_cmpR (op_eqE hr) (pv 2) (pe_lst pa_nil) (nomark _)) pa_nil)))))))), ?_⟩
    have elw : (((vts m.st.1).length : Nat) : Int) = (m.st.1.length : Nat) := by rw [List.length_map]
    have k0 : ∀ j : Nat, due m deed = j → Q (.int j) H := fun j e => by rw [← e]; exact k H (Same.refl H)
    cases deed with
    | put i w =>
      have hwl : w.length ≤ 400 := ok.2
      refine ⟨_, rfl, d, _, ((0 : Nat) : Int), _, rfl, rfl, .of ed, rfl, rfl, _, rfl, tst (c := ("put" : Str) = "put") (nmE _ _) (fun _ => ?_) (fun z => absurd rfl z)⟩
      refine ⟨_, rfl, d, _, ((1 : Nat) : Int), _, rfl, rfl, .of ed, rfl, _, _, rfl, rfl, _, rfl, ?_⟩
      by_cases h0 : 0 ≤ i
      · rw [decide_eq_true h0]
        refine ⟨_, rfl, r, _, rfl, .inl (.of er), _, _, rfl, rfl, _, rfl, tsn (c := i ≤ (m.st.1.length : Nat)) (by rw [elw]) (fun h1 => k0 17 (due_put17 fun z => h1 z.2)) (fun h1 => ?_)⟩
        have h01 : 0 ≤ i ∧ i ≤ (m.st.1.length : Nat) := ⟨h0, h1⟩
        refine ⟨_, rfl, d, _, ((2 : Nat) : Int), _, rfl, rfl, .of ed, rfl, rfl, _, rfl, ?_⟩
        rw [show decide (vt w = V.str (Str.ofString "")) = decide (w = []) by rw [lit_nil, dec_vt]]
        by_cases n1 : w = []
        · rw [decide_eq_true n1]
          exact iteT (iteT (k0 18 (due_put18 h01 fun z => z.1 n1)))
        rw [decide_eq_false n1]
        refine iteF ?_
        refine ⟨_, rfl, d, _, ((2 : Nat) : Int), _, rfl, rfl, .of ed, rfl, 32, tx w, by rw [lit_sp]; rfl, rfl, _, rfl, ?_⟩
        rw [tx_list]
        by_cases n2 : 32 ∈ w
        · rw [decide_eq_true n2]
          exact iteT (iteT (k0 18 (due_put18 h01 fun z => z.2.1 n2)))
        rw [decide_eq_false n2]
        refine iteF ?_
        refine ⟨_, rfl, d, _, ((2 : Nat) : Int), _, rfl, rfl, .of ed, rfl, 10, tx w, by rw [lit_nl]; rfl, rfl, _, rfl, tst (c := 10 ∈ w) (by rw [tx_list]) (fun n3 => k0 18 (due_put18 h01 fun z => z.2.2 n3)) (fun n3 => ?_)⟩
        have hg : goodW w := ⟨n1, n2, n3⟩
        refine ⟨_, rfl, d, _, ((2 : Nat) : Int), _, rfl, rfl, .of ed, rfl, tx w, rfl, by rw [tx_len]; exact sz (by omega), _, rfl, _, _, rfl, rfl, .inr ⟨_, rfl, ?_⟩⟩
        rw [tx_len]
        by_cases n4 : m.st.2 < (w.length : Nat)
        · rw [decide_eq_true (show ((w.length : Nat) : Int) > m.st.2 from n4)]
          exact ⟨_, _, rfl, rfl, .inr ⟨by decide, by decide⟩, true, (show true = ((12 * 1 : Int) != 0) from rfl), iteT (k0 12 (due_put12 h01 hg n4))⟩
        · rw [decide_eq_false (show ¬ ((w.length : Nat) : Int) > m.st.2 from n4)]
          refine ⟨_, _, rfl, rfl, .inr ⟨by decide, by decide⟩, false, (show false = ((12 * 0 : Int) != 0) from rfl), iteF ?_⟩
          refine ⟨_, rfl, r, _, rfl, .inl (.of er), _, _, rfl, rfl, .inr ⟨_, rfl, ?_⟩⟩
          rw [elw]
          by_cases n5 : 120 ≤ m.st.1.length
          · rw [decide_eq_true (show ((m.st.1.length : Nat) : Int) ≥ 120 by omega)]
            exact ⟨_, _, rfl, rfl, .inr ⟨by decide, by decide⟩, k0 19 (due_put19 h01 hg n4 n5)⟩
          · rw [decide_eq_false (show ¬ ((m.st.1.length : Nat) : Int) ≥ 120 by omega)]
            exact ⟨_, _, rfl, rfl, .inr ⟨by decide, by decide⟩, k0 0 (due_put0 h01 hg n4 n5)⟩
      · rw [decide_eq_false h0]
        refine iteF ?_
        exact ⟨_, rfl, iteT (k0 17 (due_put17 fun z => h0 z.1))⟩
    | drop i =>
      refine ⟨_, rfl, d, _, ((0 : Nat) : Int), _, rfl, rfl, .of ed, rfl, rfl, _, rfl, tst (c := ("drop" : Str) = "put") (nmE _ _) (fun z => absurd z nDP) (fun _ => ?_)⟩
      refine ⟨_, rfl, d, _, ((0 : Nat) : Int), _, rfl, rfl, .of ed, rfl, rfl, _, rfl, tst (c := ("drop" : Str) = "drop") (nmE _ _) (fun _ => ?_) (fun z => absurd rfl z)⟩
      refine ⟨_, rfl, d, _, ((1 : Nat) : Int), _, rfl, rfl, .of ed, rfl, _, _, rfl, rfl, _, rfl, ?_⟩
      by_cases h0 : 0 ≤ i
      · rw [decide_eq_true h0]
        refine ⟨_, rfl, r, _, rfl, .inl (.of er), _, _, rfl, rfl, _, rfl, .inr ⟨_, rfl, ?_⟩⟩
        rw [elw]
        by_cases h1 : i < (m.st.1.length : Nat)
        · rw [decide_eq_true h1]
          exact ⟨_, _, rfl, rfl, .inr ⟨by decide, by decide⟩, k0 0 (due_drop0 ⟨h0, h1⟩)⟩
        · rw [decide_eq_false h1]
          exact ⟨_, _, rfl, rfl, .inr ⟨by decide, by decide⟩, k0 17 (due_drop17 fun z => h1 z.2)⟩
      · rw [decide_eq_false h0]
        exact ⟨_, rfl, .inr ⟨_, rfl, _, _, rfl, rfl, .inr ⟨by decide, by decide⟩, k0 17 (due_drop17 fun z => h0 z.1)⟩⟩
    | widen j =>
      refine ⟨_, rfl, d, _, ((0 : Nat) : Int), _, rfl, rfl, .of ed, rfl, rfl, _, rfl, tst (c := ("widen" : Str) = "put") (nmE _ _) (fun z => absurd z nWP') (fun _ => ?_)⟩
      refine ⟨_, rfl, d, _, ((0 : Nat) : Int), _, rfl, rfl, .of ed, rfl, rfl, _, rfl, tst (c := ("widen" : Str) = "drop") (nmE _ _) (fun z => absurd z nWD) (fun _ => ?_)⟩
      refine ⟨_, rfl, d, _, ((0 : Nat) : Int), _, rfl, rfl, .of ed, rfl, rfl, _, rfl, tst (c := ("widen" : Str) = "widen") (nmE _ _) (fun _ => ?_) (fun z => absurd rfl z)⟩
      refine ⟨_, rfl, d, _, ((1 : Nat) : Int), _, rfl, rfl, .of ed, rfl, _, _, rfl, rfl, .inr ⟨_, rfl, ?_⟩⟩
      by_cases h0 : j < 1
      · rw [decide_eq_true h0]
        exact ⟨_, _, rfl, rfl, .inr ⟨by decide, by decide⟩, true, (show true = ((11 * 1 : Int) != 0) from rfl), iteT (k0 11 (due_widen11 h0))⟩
      · rw [decide_eq_false h0]
        refine ⟨_, _, rfl, rfl, .inr ⟨by decide, by decide⟩, false, (show false = ((12 * 0 : Int) != 0) from rfl), iteF ?_⟩
        refine ⟨_, rfl, r, m.st.1, rfl, .of er, hb, _, rfl, d, _, ((1 : Nat) : Int), _, rfl, rfl, .of ed, rfl, _, _, rfl, rfl, .inr ⟨_, rfl, ?_⟩⟩
        by_cases h1 : j < (longest m.st.1 : Nat)
        · rw [decide_eq_true (show ((longest m.st.1 : Nat) : Int) > j from h1)]
          exact ⟨_, _, rfl, rfl, .inr ⟨by decide, by decide⟩, k0 12 (due_widen12 h0 h1)⟩
        · rw [decide_eq_false (show ¬ ((longest m.st.1 : Nat) : Int) > j from h1)]
          exact ⟨_, _, rfl, rfl, .inr ⟨by decide, by decide⟩, k0 0 (due_widen0 h0 h1)⟩
    | undo =>
      refine ⟨_, rfl, d, _, ((0 : Nat) : Int), _, rfl, rfl, .of ed, rfl, rfl, _, rfl, tst (c := ("undo" : Str) = "put") (nmE _ _) (fun z => absurd z nUP) (fun _ => ?_)⟩
      refine ⟨_, rfl, d, _, ((0 : Nat) : Int), _, rfl, rfl, .of ed, rfl, rfl, _, rfl, tst (c := ("undo" : Str) = "drop") (nmE _ _) (fun z => absurd z nUD) (fun _ => ?_)⟩
      refine ⟨_, rfl, d, _, ((0 : Nat) : Int), _, rfl, rfl, .of ed, rfl, rfl, _, rfl, tst (c := ("undo" : Str) = "widen") (nmE _ _) (fun z => absurd z nUW) (fun _ => ?_)⟩
      refine ⟨_, rfl, sz (by simp), fun e ne => ?_⟩
      refine ⟨q, e, qs, rfl, rfl, .of (kept eq ne), .of upd_same, .inr ⟨_, rfl, ?_⟩⟩
      by_cases h0 : qs.length = 0
      · rw [decide_eq_true h0]
        refine ⟨_, _, rfl, rfl, .inr ⟨by decide, by decide⟩, ?_⟩
        have e2 := due_undo20 (m := m) (List.eq_nil_of_length_eq_zero (by omega))
        have := k _ ((Same.refl H).new (o := HO.lst []) ne)
        rw [e2] at this; exact this
      · rw [decide_eq_false h0]
        refine ⟨_, _, rfl, rfl, .inr ⟨by decide, by decide⟩, ?_⟩
        have e2 := due_undo0 (m := m) (fun z => h0 (by rw [hq, z]; rfl))
        have := k _ ((Same.refl H).new (o := HO.lst []) ne)
        rw [e2] at this; exact this
    | fill => exact ok.elim

def sp__law_alike_by : Sp := fun vs H Q _ => ∃ n m : Int, vs = [.int n, .int m] ∧ 1 ≤ m ∧ m ≤ 300 ∧ ∀ w, Wd w → Q (vt w) H
theorem ok__law_alike_by (A : At K mg "_law_alike_by" ["_law_cell", "_law_size"] st__law_alike_by) (T : Bts mg) (G__law_sign_by : Ok P w K mg base CX0 1 "_law_sign_by" ["_law_cell"] sp__law_sign_by) :
    Ok P w K mg base CX0 2 "_law_alike_by" ["_law_cell", "_law_size"] sp__law_alike_by := by
  refine A.ok sc__law_alike_by (fun vs H Q E h => ?_) (fun f cdv A outer s H vs Q E hr h => ?_)
  · obtain ⟨n, m, rfl, _⟩ := h; rfl
  · obtain ⟨c, m, rfl, h1, h2, q⟩ := h
    have lit_a : PySem.Str.ofString "a" = tx [97] := by decide +kernel
    refine ⟨_, (pss_cons (ps_set (i := 2) sc__law_alike_by.nd rfl (Or.inl rfl) (pe_op op_mod (pe_op op_fdiv (pv 0) pe_int) (pv 1)))
      (pss_one (ps_ret (pe_op op_add_str (pe_op op_add_str (pe_op op_mulS pe_str (pv 2)) (pe_cd G__law_sign_by (hr.mono (by decide)) pass0 (pa_cons (pv 0) pa_nil))) (pe_op op_mulS pe_str (pe_op op_sub (pe_op op_sub (pv 1) pe_int) (pv 2))))))), ?_⟩
    refine ⟨_, rfl, _, _, rfl, rfl, ⟨by decide, by decide⟩, _, rfl, _, _, rfl, rfl, (show 0 < m by omega), ?_⟩
    have b1 : 0 ≤ c / 93 % m := Int.emod_nonneg _ (by omega)
    have b2 : c / 93 % m < m := Int.emod_lt_of_pos _ (by omega)
    generalize hat : c / 93 % m = at0 at b1 b2
    refine ⟨_, rfl, [97], at0, by rw [lit_a], by rw [← hat], by omega, by omega, sz (by simp <;> omega), _, rfl, _, rfl, _, _, rfl, rfl, ?_, ?_⟩
    · rw [tx_len, tx_len, rep_sign, List.length_replicate]; exact sz (by simp <;> omega)
    · refine ⟨_, rfl, _, _, rfl, rfl, _, rfl, _, _, rfl, rfl, [97], m - 1 - at0, by rw [lit_a], by rw [← hat], by omega, by omega, sz (by simp <;> omega), _, _, rfl, rfl, ?_, ?_⟩
      · rw [tx_app, tx_len, tx_len, rep_sign, rep_sign, List.length_append, List.length_replicate, List.length_replicate]; exact sz (by simp only [List.length_cons, List.length_nil]; omega)
      · rw [tx_app, tx_app]
        have hs := sign_in c
        refine q _ ⟨?_, ?_, fun x hx => ?_⟩
        · simp
        · rw [rep_sign, rep_sign]; simp; omega
        · rw [rep_sign, rep_sign] at hx
          rcases List.mem_append.mp hx with z | z
          · rcases List.mem_append.mp z with z | z
            · rw [List.eq_of_mem_replicate z]; omega
            · rw [List.mem_singleton.mp z]; exact hs
          · rw [List.eq_of_mem_replicate z]; omega

def sp__law_place_by : Sp := fun vs H Q _ => ∃ (c : Int) (k : Nat), vs = [.int c, .int k] ∧ k ≤ 1000 ∧ ∀ H' n, Same H H' → Q (.int n) H'
theorem ok__law_place_by (A : At K mg "_law_place_by" ["_law_more", "_law_count"] st__law_place_by) (T : Bts mg) : Ok P w K mg base CX0 1 "_law_place_by" ["_law_more", "_law_count"] sp__law_place_by := by
  refine A.ok sc__law_place_by (fun vs H Q E h => ?_) (fun f cdv A outer s H vs Q E hr h => ?_)
  · obtain ⟨c, k, rfl, _⟩ := h; rfl
  · obtain ⟨c, k, rfl, hk, q⟩ := h
    refine ⟨_, (pss_cons (ps_if (pt_cmpR op_eq (pe_op op_mod (pe_op op_fdiv (pv 0) pe_int) pe_int) pe_int (nomark _)) (pss_one (ps_ret (pe_ix (ix_listK K) (pe_lst (pa_cons (pe_un un_neg pe_int) (pa_cons (pe_op op_add (pv 1) pe_int) (pa_cons (pe_op op_powW pe_int pe_int) (pa_cons (pe_un un_neg (pe_op op_powW pe_int pe_int)) pa_nil))))) (pe_op op_mod (pv 0) pe_int) (fun _ _ => rfl)))) pss_nil)
      (pss_one (ps_ret (pe_op op_sub (pe_op op_mod (pv 0) (pe_op op_add (pv 1) pe_int)) pe_int)))), ?_⟩
    refine ⟨_, rfl, _, _, rfl, rfl, ⟨by decide, by decide⟩, _, _, rfl, rfl, (show (0 : Int) < 16 by decide), rfl, _, rfl, tst (c := c / 7 % 16 = 1) dec_vi (fun n1 => ?_) (fun n1 => ?_)⟩
    · refine ⟨_, rfl, _, rfl, _, _, rfl, rfl, _, _, rfl, rfl, by decide, by decide +kernel, _, _, rfl, rfl, by decide, by decide +kernel, _, rfl, sz (by simp), fun l nl => ?_⟩
      obtain ⟨j, hj⟩ : ∃ j : Nat, c % 4 = (j : Int) := ⟨(c % 4).toNat, by omega⟩
      have hv : ∃ v : Int, ([V.int (-2), V.int ((k : Int) + 3), V.int (10 ^ (30 : Int).toNat), V.int (-(10 ^ (30 : Int).toNat))])[j]? = some (.int v) := by
        rcases (show j = 0 ∨ j = 1 ∨ j = 2 ∨ j = 3 by omega) with z | z | z | z <;> subst z <;> exact ⟨_, rfl⟩
      obtain ⟨v, hv⟩ := hv
      exact ⟨_, rfl, _, _, rfl, rfl, (show (0 : Int) < 4 by decide), l, _, _, _, rfl, rfl, .of upd_same, at_of hj hv, q _ _ ((Same.refl H).new nl)⟩
    · exact ⟨_, rfl, _, rfl, _, _, rfl, rfl, _, _, rfl, rfl, (show (0 : Int) < (k : Int) + 3 by omega), _, _, rfl, rfl, q _ _ (Same.refl H)⟩

theorem cutS_to (w : List Nat) (k : Nat) : cutS (tx w) none (some (k : Int)) = tx (w.take k) := by
  unfold cutS
  rw [HT.sIx_nat, tx_list, tx_len]
  show tx ((w.drop 0).take (min k w.length - 0)) = tx (w.take k)
  rw [List.drop_zero, Nat.sub_zero]
  congr 1
  rcases Nat.le_total k w.length with h | h
  · rw [Nat.min_eq_left h]
  · rw [Nat.min_eq_right h, List.take_length, List.take_of_length_le h]
theorem cutS_from (w : List Nat) (k : Nat) : cutS (tx w) (some (k : Int)) none = tx (w.drop k) := by
  unfold cutS
  rw [HT.sIx_nat, tx_list, tx_len]
  show tx ((w.drop (min k w.length)).take (w.length - min k w.length)) = tx (w.drop k)
  congr 1
  rcases Nat.le_total k w.length with h | h
  · rw [Nat.min_eq_left h, List.take_of_length_le (by rw [List.length_drop]; omega)]
  · rw [Nat.min_eq_right h, List.drop_of_length_le h, List.drop_of_length_le (Nat.le_refl _), List.take_nil]
theorem lit_bn : PySem.Str.ofString " \n" = tx [32, 10] := by decide +kernel
theorem bn_at {i : Int} (h1 : 0 ≤ i) (h2 : i < 2) : ∃ x, atI (tx [32, 10]).cps.toList i = some x ∧ x < 1114112 := by
  rcases (show i = ((0 : Nat) : Int) ∨ i = ((1 : Nat) : Int) by omega) with z | z <;> subst z
  · exact ⟨32, atI_nat rfl, by decide⟩
  · exact ⟨10, atI_nat rfl, by decide⟩
theorem plain_rep {l : List Nat} (h : plainTx l) (n : Nat) : plainTx (List.replicate n l).flatten := fun c hc => by
  obtain ⟨y, hy, hc⟩ := List.mem_flatten.mp hc
  rw [(List.mem_replicate.mp hy).2] at hc
  exact h c hc
theorem len_rep (l : List Nat) (n : Nat) : (List.replicate n l).flatten.length = n * l.length := by
  rw [List.length_flatten, List.map_replicate, List.sum_replicate_nat]
def sp__law_deed_by : Sp := fun vs H Q _ => ∃ (c : Int) (n : Nat), vs = [.int c, .int n] ∧ n ≤ 120 ∧ ∀ (H' : Hp) (a : Addr) (deed : Deed), Same H H' → H a = none → H' a = some (.tup deed.vals) → (deed = .fill ∨ deed.ok) → Q (.ref a) H'
theorem ok__law_deed_by (A : At K mg "_law_deed_by" ["_law_cell", "_law_count"] st__law_deed_by) (T : Bts mg) (G__law_word_by : Ok P w K mg base CX0 2 "_law_word_by" ["_law_cell"] sp__law_word_by)
    (G__law_alike_by : Ok P w K mg base CX0 2 "_law_alike_by" ["_law_cell", "_law_size"] sp__law_alike_by) (G__law_place_by : Ok P w K mg base CX0 1 "_law_place_by" ["_law_more", "_law_count"] sp__law_place_by) :
    Ok P w K mg base CX0 3 "_law_deed_by" ["_law_cell", "_law_count"] sp__law_deed_by := by
  refine A.ok sc__law_deed_by (fun vs H Q E h => ?_) (fun f cdv A outer s H vs Q E hr h => ?_)
  · obtain ⟨c, n, rfl, _⟩ := h; rfl
  · obtain ⟨c, n, rfl, hn, q⟩ := h
    refine ⟨_, (pss_cons (ps_set (i := 2) sc__law_deed_by.nd rfl (Or.inl rfl) (pe_op op_mod (pv 0) pe_int))
      (pss_cons (ps_set (i := 3) sc__law_deed_by.nd rfl (Or.inl rfl) (pe_op op_fdiv (pv 0) pe_int))
      (pss_cons (ps_if (pt_cmpR op_lt (pv 2) pe_int (nomark _)) (pss_cons (ps_set (i := 4) sc__law_deed_by.nd rfl (Or.inl rfl) (pe_cd G__law_word_by (hr.mono (by decide)) pass0 (pa_cons (pe_op op_fdiv (pv 3) pe_int) pa_nil)))
      (C8.pss_cut (ps_if (pt_cmpR op_eq (pe_op op_mod (pv 3) pe_int) pe_int (nomark _)) (pss_one (ps_set (i := 4) sc__law_deed_by.nd rfl (Or.inl rfl) (pe_cd G__law_alike_by (hr.mono (by decide)) pass0 (pa_cons (pe_op op_fdiv (pv 3) pe_int) (pa_cons (pe_op op_add pe_int (pe_op op_mod (pe_op op_fdiv (pv 3) pe_int) pe_int)) pa_nil))))) pss_nil)
      (C8.pss_cut (ps_if (pt_cmpR op_eq (pe_op op_mod (pe_op op_fdiv (pv 3) pe_int) pe_int) pe_int (nomark _)) (pss_cons (ps_set (i := 5) sc__law_deed_by.nd rfl (Or.inl rfl) (pe_op op_mod (pe_op op_fdiv (pv 3) pe_int) (pe_op op_add (pe_callB call_len_str (by rfl) T.m_len PySem.boot_len (pa_cons (pv 4) pa_nil)) pe_int)))
      (pss_cons (ps_set (i := 4) sc__law_deed_by.nd rfl (Or.inl rfl) (pe_op op_mulS (pe_op op_add_str (pe_op op_add_str (pe_slice sl_str (pv 4) po_none (po_some (pv 5))) (pe_ix ix_str pe_str (pe_op op_mod (pv 3) pe_int) (fun _ _ => rfl))) (pe_slice sl_str (pv 4) (po_some (pv 5)) po_none)) (pe_callTy call_int1 (by rfl) T.m_int (by decide +kernel) (pa_cons (pe_cmpR op_gt (pe_op op_mod (pv 3) pe_int) pe_int (nomark _)) pa_nil))))
      (pss_one (ps_if (pt_cmpR op_eq (pe_op op_mod (pv 3) pe_int) pe_int (nomark _)) (pss_one (ps_set (i := 4) sc__law_deed_by.nd rfl (Or.inl rfl) (pe_op op_mulS (pe_ix ix_str pe_str (pe_op op_mod (pe_op op_fdiv (pv 3) pe_int) pe_int) (fun _ _ => rfl)) (pe_op op_add pe_int (pe_op op_mod (pe_op op_fdiv (pv 3) pe_int) pe_int))))) pss_nil)))) pss_nil)
      (pss_one (ps_ret (pe_tup (pa_cons pe_str (pa_cons (pe_cd G__law_place_by (hr.mono (by decide)) pass0 (pa_cons (pv 3) (pa_cons (pv 1) pa_nil))) (pa_cons (pv 4) pa_nil))))))))) pss_nil)
      (pss_cons (ps_if (pt_cmpR op_lt (pv 2) pe_int (nomark _)) (pss_one (ps_ret (pe_tup (pa_cons pe_str (pa_cons (pe_cd G__law_place_by (hr.mono (by decide)) pass0 (pa_cons (pv 3) (pa_cons (pv 1) pa_nil))) pa_nil))))) pss_nil)
      (pss_cons (ps_if (pt_cmpR op_lt (pv 2) pe_int (nomark _)) (pss_cons (ps_set (i := 6) sc__law_deed_by.nd rfl (Or.inl rfl) (pe_ix (ix_listK K) (pe_lst (pa_cons (pe_op op_powW pe_int pe_int) (pa_cons (pe_un un_neg (pe_op op_powW pe_int pe_int)) pa_nil))) (pe_op op_mod (pe_op op_fdiv (pv 3) pe_int) pe_int) (fun _ _ => rfl)))
      (pss_one (ps_ret (pe_tup (pa_cons pe_str (pa_cons (pe_ix (ix_listK K) (pe_lst (pa_cons (pe_op op_sub (pe_op op_mod (pv 3) pe_int) pe_int) (pa_cons (pe_op op_add pe_int (pe_op op_mod (pe_op op_fdiv (pv 3) pe_int) pe_int)) (pa_cons (pv 6) (pa_cons (pe_op op_mod (pe_op op_fdiv (pv 3) pe_int) pe_int) pa_nil))))) (pe_op op_mod (pv 3) pe_int) (fun _ _ => rfl)) pa_nil)))))) pss_nil)
      (pss_cons (ps_if (PW.pt (pw_and (pt_cmpR op_eq (pv 2) pe_int (nomark _)) (pw_and1 (pt_cmpR op_eq (pe_op op_mod (pv 3) pe_int) pe_int (nomark _))))) (pss_one (ps_ret (pe_tup (pa_cons pe_str pa_nil)))) pss_nil)
      (pss_one (ps_ret (pe_tup (pa_cons pe_str pa_nil)))))))))), ?_⟩
    have h30 : (10 : Int) ^ (30 : Int).toNat = 10 ^ 30 := by decide
    obtain ⟨e, he⟩ : ∃ e, c / 16 = e := ⟨_, rfl⟩
    obtain ⟨k, hk⟩ : ∃ k, c % 16 = k := ⟨_, rfl⟩
    refine ⟨_, rfl, _, _, rfl, rfl, (show (0 : Int) < 16 by decide), ?_⟩
    refine (show gName 2 (V.int (c % 16)) _ _ _ from ?_)
    rw [hk]
    refine ⟨_, rfl, _, _, rfl, rfl, ⟨by decide, by decide⟩, ?_⟩
    refine (show gName 3 (V.int (c / 16)) _ _ _ from ?_)
    rw [he]
    refine ⟨_, rfl, _, _, rfl, rfl, _, rfl, tst (c := k < 8) rfl (fun n1 => ?_) (fun n1 => ?_)⟩
    · refine ⟨_, rfl, _, _, rfl, rfl, ⟨by decide, by decide⟩, e / 50, rfl, fun H1 w1 s1 hw1 => ?_⟩
      refine ⟨fun σ H' => Same H H' ∧ ∃ w, σ = [some (.int c), some (.int n), some (.int k), some (.int e), some (vt w), none, none] ∧ plainTx w ∧ w.length ≤ 300, ?_, ?_⟩
      · refine ⟨_, rfl, _, _, rfl, rfl, (show (0 : Int) < 4 by decide), rfl, _, rfl, tst (c := e % 4 = 3) dec_vi (fun n2 => ?_) (fun n2 => ?_)⟩
        · refine ⟨_, rfl, _, _, rfl, rfl, ⟨by decide, by decide⟩, _, rfl, _, _, rfl, rfl, ⟨by decide, by decide⟩, _, _, rfl, rfl, (show (0 : Int) < 4 by decide), _, _, rfl, rfl, e / 50, 1 + e / 8 % 4, rfl, by omega, by omega, fun w hw => ?_⟩
          exact ⟨s1, w, rfl, hw.plain, hw.le⟩
        · exact ⟨s1, w1, rfl, hw1.plain, hw1.le⟩
      rintro σ H2 ⟨s2, w2, rfl, hp2, hl2⟩
      refine ⟨fun σ H' => Same H H' ∧ ∃ w y, σ = [some (.int c), some (.int n), some (.int k), some (.int e), some (vt w), y, none] ∧ plainTx w ∧ w.length ≤ 400, ?_, ?_⟩
      · refine ⟨_, rfl, _, _, rfl, rfl, ⟨by decide, by decide⟩, _, _, rfl, rfl, (show (0 : Int) < 19 by decide), rfl, _, rfl, tst (c := e / 50 % 19 = 1) dec_vi (fun n2 => ?_) (fun n2 => ?_)⟩
        · refine ⟨_, rfl, _, _, rfl, rfl, ⟨by decide, by decide⟩, _, rfl, tx w2, rfl, by rw [tx_len]; exact sz (by omega), _, _, rfl, rfl, _, _, rfl, rfl, (show (0 : Int) < ((tx w2).length : Nat) + 1 by omega), ?_⟩
          rw [tx_len]
          have a1 := Int.emod_nonneg (e / 950) (b := ((w2.length : Nat) : Int) + 1) (by omega)
          have a2 := Int.emod_lt_of_pos (e / 950) (b := ((w2.length : Nat) : Int) + 1) (by omega)
          obtain ⟨j, hj⟩ : ∃ j : Nat, e / 950 % (((w2.length : Nat) : Int) + 1) = (j : Int) := ⟨(e / 950 % (((w2.length : Nat) : Int) + 1)).toNat, by omega⟩
          refine (show gName 5 (V.int (e / 950 % (((w2.length : Nat) : Int) + 1))) _ _ _ from ?_)
          rw [hj]
          have hjl : j ≤ w2.length := by omega
          refine ⟨_, rfl, _, rfl, ((j : Nat) : Int), rfl, tx w2, rfl, by rw [tx_len]; exact sz (by omega), ?_⟩
          rw [cutS_to]
          obtain ⟨x, hx, hx2⟩ := bn_at (i := e % 2) (by omega) (by omega)
          refine ⟨_, rfl, _, _, rfl, rfl, (show (0 : Int) < 2 by decide), tx [32, 10], e % 2, x, by rw [lit_bn], rfl, by rw [tx_len]; exact sz (by decide), hx, ?_⟩
          have ltk : (w2.take j).length = j := by rw [List.length_take]; omega
          have ldr : (w2.drop j).length = w2.length - j := List.length_drop
          refine ⟨_, _, rfl, rfl, ?_, ?_⟩
          · show (tx (w2.take j)).length + (tx [x]).length ≤ sizeLine
            rw [tx_len, tx_len, ltk]; exact sz (by simp; omega)
          refine (show (_ : Prop) from ?_)
          rw [show tx (w2.take j) ++ (⟨#[x]⟩ : Str) = tx (w2.take j ++ [x]) from tx_app _ _]
          refine ⟨_, rfl, _, rfl, ((j : Nat) : Int), rfl, tx w2, rfl, by rw [tx_len]; exact sz (by omega), ?_⟩
          rw [cutS_from]
          refine ⟨_, _, rfl, rfl, ?_, ?_⟩
          · rw [tx_len, tx_len, List.length_append, ltk, ldr]; exact sz (by simp; omega)
          rw [tx_app]
          obtain ⟨v, hv⟩ : ∃ v : Int, (if decide (e % 7 > 0) = true then (1 : Int) else 0) = v := ⟨_, rfl⟩
          have hv1 : v = 0 ∨ v = 1 := by rw [← hv]; split <;> omega
          refine ⟨_, rfl, _, _, rfl, rfl, (show (0 : Int) < 7 by decide), _, _, rfl, rfl, .inr ⟨_, rfl, ?_⟩⟩
          rw [hv]
          have hwl : (w2.take j ++ [x] ++ w2.drop j).length ≤ 301 := by rw [List.length_append, List.length_append, ltk, ldr]; simp; omega
          have hwp : plainTx (w2.take j ++ [x] ++ w2.drop j) := fun c hc => by
            rcases List.mem_append.mp hc with z | z
            · rcases List.mem_append.mp z with z | z
              · exact hp2 c (List.mem_of_mem_take z)
              · rw [List.mem_singleton.mp z]; exact hx2
            · exact hp2 c (List.mem_of_mem_drop z)
          generalize w2.take j ++ [x] ++ w2.drop j = w4 at hwl hwp ⊢
          refine ⟨w4, v, rfl, rfl, by omega, by omega, ?_, ?_⟩
          · rcases hv1 with z | z <;> subst z <;> exact sz (by simp; try omega)
          have hl4 : (List.replicate v.toNat w4).flatten.length ≤ 400 := by
            rw [len_rep]
            rcases hv1 with z | z <;> subst z
            · show 0 * _ ≤ _
              omega
            · show 1 * _ ≤ _
              omega
          have hp4 := plain_rep hwp v.toNat
          generalize (List.replicate v.toNat w4).flatten = w5 at hl4 hp4 ⊢
          refine ⟨_, rfl, _, _, rfl, rfl, (show (0 : Int) < 7 by decide), rfl, _, rfl, tst (c := e % 7 = 1) dec_vi (fun n3 => ?_) (fun n3 => ?_)⟩
          · obtain ⟨y, hy, hy2⟩ := bn_at (i := e / 7 % 2) (by omega) (by omega)
            refine ⟨_, rfl, _, _, rfl, rfl, ⟨by decide, by decide⟩, _, _, rfl, rfl, (show (0 : Int) < 2 by decide), tx [32, 10], e / 7 % 2, y, by rw [lit_bn], rfl, by rw [tx_len]; exact sz (by decide), hy, ?_⟩
            refine ⟨_, rfl, _, _, rfl, rfl, ⟨by decide, by decide⟩, _, _, rfl, rfl, (show (0 : Int) < 2 by decide), _, _, rfl, rfl, [y], 1 + e / 14 % 2, rfl, rfl, by omega, by omega, sz (by simp; omega), ?_⟩
            exact ⟨s2, (List.replicate (1 + e / 14 % 2).toNat [y]).flatten, _, rfl, plain_rep (fun c hc => by rw [List.mem_singleton.mp hc]; exact hy2) _, by rw [len_rep]; simp; omega⟩
          · exact ⟨s2, w5, _, rfl, hp4, hl4⟩
        · exact ⟨s2, w2, none, rfl, hp2, by omega⟩
      rintro σ H3 ⟨s3, w3, y, rfl, hp3, hl3⟩
      refine ⟨_, rfl, _, rfl, e, n, rfl, by omega, fun H4 i s4 => ?_⟩
      refine ⟨_, rfl, sz (by simp), fun a na => ?_⟩
      exact q _ a (.put i w3) ((s3.trans s4).new na) ((s3.trans s4).free na) upd_same (.inr ⟨hp3, hl3⟩)
    refine ⟨_, rfl, _, _, rfl, rfl, _, rfl, tst (c := k < 11) rfl (fun n2 => ?_) (fun n2 => ?_)⟩
    · refine ⟨_, rfl, _, rfl, e, n, rfl, by omega, fun H4 i s4 => ?_⟩
      refine ⟨sz (by simp), fun a na => ?_⟩
      exact q _ a (.drop i) (s4.new na) (s4.free na) upd_same (.inr trivial)
    refine ⟨_, rfl, _, _, rfl, rfl, _, rfl, tst (c := k < 13) rfl (fun n3 => ?_) (fun n3 => ?_)⟩
    · refine ⟨_, _, rfl, rfl, by decide, by decide +kernel, _, _, rfl, rfl, by decide, by decide +kernel, _, rfl, sz (by simp), fun l nl => ?_⟩
      obtain ⟨j, hj⟩ : ∃ j : Nat, e / 4 % 2 = (j : Int) := ⟨(e / 4 % 2).toNat, by omega⟩
      have hv : ∃ v : Int, ([V.int (10 ^ (30 : Int).toNat), V.int (-(10 ^ (30 : Int).toNat))])[j]? = some (.int v) ∧ Wb v := by
        rcases (show j = 0 ∨ j = 1 by omega) with z | z <;> subst z
        · exact ⟨_, rfl, by rw [h30]; unfold Wb; decide⟩
        · exact ⟨_, rfl, by rw [h30]; unfold Wb; decide⟩
      obtain ⟨v, hv, v1⟩ := hv
      have s1 := (Same.refl H).new (o := HO.lst [V.int (10 ^ (30 : Int).toNat), V.int (-(10 ^ (30 : Int).toNat))]) nl
      refine ⟨_, rfl, _, _, rfl, rfl, ⟨by decide, by decide⟩, _, _, rfl, rfl, (show (0 : Int) < 2 by decide), l, _, _, _, rfl, rfl, .of upd_same, at_of hj hv, ?_⟩
      generalize upd H l (HO.lst [V.int (10 ^ (30 : Int).toNat), V.int (-(10 ^ (30 : Int).toNat))]) = H1 at s1 ⊢
      refine ⟨_, rfl, _, _, rfl, rfl, (show (0 : Int) < 42 by decide), _, _, rfl, rfl, _, rfl, _, _, rfl, rfl, ⟨by decide, by decide⟩, _, _, rfl, rfl, (show (0 : Int) < 120 by decide), _, _, rfl, rfl, _, rfl, _, rfl, _, _, rfl, rfl, ⟨by decide, by decide⟩, _, _, rfl, rfl, (show (0 : Int) < 42 by decide), sz (by simp), fun l2 nl2 => ?_⟩
      obtain ⟨j, hj⟩ : ∃ j : Nat, e % 4 = (j : Int) := ⟨(e % 4).toNat, by omega⟩
      have hv2 : ∃ u : Int, ([V.int (e % 42 - 1), V.int (42 + e / 4 % 120), V.int v, V.int (e / 4 % 42)])[j]? = some (.int u) ∧ Wb u := by
        rcases (show j = 0 ∨ j = 1 ∨ j = 2 ∨ j = 3 by omega) with z | z | z | z <;> subst z
        · exact ⟨_, rfl, Wb.sm (by omega) (by omega)⟩
        · exact ⟨_, rfl, Wb.sm (by omega) (by omega)⟩
        · exact ⟨_, rfl, v1⟩
        · exact ⟨_, rfl, Wb.sm (by omega) (by omega)⟩
      obtain ⟨u, hu, u1⟩ := hv2
      have s2 := s1.new (o := HO.lst [V.int (e % 42 - 1), V.int (42 + e / 4 % 120), V.int v, V.int (e / 4 % 42)]) nl2
      refine ⟨_, rfl, _, _, rfl, rfl, (show (0 : Int) < 4 by decide), l2, _, _, _, rfl, rfl, .of upd_same, at_of hj hu, sz (by simp), fun a na => ?_⟩
      exact q _ a (.widen u) (s2.new na) (s2.free na) upd_same (.inr u1)
    refine ⟨_, rfl, rfl, _, rfl, ?_⟩
    rw [dec_vi]
    have un : ∀ a, H a = none → Q (.ref a) (upd H a (.tup [.str "undo"])) := fun a na => q _ a .undo ((Same.refl H).new na) na upd_same (.inr trivial)
    by_cases n4 : k = 15
    · rw [decide_eq_true n4]
      refine iteT ⟨_, rfl, _, _, rfl, rfl, (show (0 : Int) < 4 by decide), rfl, _, rfl, tst (c := e % 4 = 1) dec_vi (fun n2 => ?_) (fun n2 => ?_)⟩
      · exact ⟨sz (by simp), fun a na => q _ a .fill ((Same.refl H).new na) na upd_same (.inl rfl)⟩
      · exact ⟨sz (by simp), un⟩
    · rw [decide_eq_false n4]
      exact iteF (iteF ⟨sz (by simp), un⟩)

/-- what a page in the state s tells at a place -/
def Tell (Mu : List Addr) (s : Pst) (H : Hp) : Nat → V → Prop
  | 0, v => v = .int s.2
  | 1, v => ∃ a, v = .ref a ∧ Fz Mu H a (.lst (vts s.1))
  | 2, v => ∃ a xs, v = .ref a ∧ Fz Mu H a (.lst (vis xs)) ∧ xs.length = s.1.length + 1 ∧ Tab s.1 s.2 (tb xs)
  | 3, v => ∃ a ks xs, v = .ref a ∧ Fz Mu H a (.lst (vis (toI ks))) ∧ Bc s.1 s.2 (tb xs) 0 ks ∧ Tab s.1 s.2 (tb xs)
  | 4, v => ∃ a ks xs, v = .ref a ∧ Fz Mu H a (.lst (vts (lns s.1 ks))) ∧ Bc s.1 s.2 (tb xs) 0 ks ∧ Tab s.1 s.2 (tb xs)
  | _, _ => False
theorem Tell.map {Mu Mu' : List Addr} {s : Pst} {H H' : Hp} (h : ∀ a o, Fz Mu H a o → Fz Mu' H' a o) : ∀ {k : Nat} {v : V}, Tell Mu s H k v → Tell Mu' s H' k v
  | 0, _, t => t
  | 1, _, t => by obtain ⟨a, e, f⟩ := t; exact ⟨a, e, h _ _ f⟩
  | 2, _, t => by obtain ⟨a, xs, e, f, g⟩ := t; exact ⟨a, xs, e, h _ _ f, g⟩
  | 3, _, t => by obtain ⟨a, ks, xs, e, f, g⟩ := t; exact ⟨a, ks, xs, e, h _ _ f, g⟩
  | 4, _, t => by obtain ⟨a, ks, xs, e, f, g⟩ := t; exact ⟨a, ks, xs, e, h _ _ f, g⟩
  | _ + 5, _, t => t.elim
def sp__law_one_told (C : Addr) : Sp := fun vs H Q _ => ∃ (Mu : List Addr) (p q : Addr) (m : Mo) (k : Nat), vs = [.ref p, .int k] ∧ k < 5 ∧ PgAt C Mu H p q m ∧ ∀ H' v, Same H H' → Tell Mu m.st H' k v → Q v H'
theorem ok__law_one_told {C : Addr} (A : At K mg "_law_one_told" ["_law_page", "_law_place"] st__law_one_told) (T : Bts mg) (PG : PgC K C)
    (G_Page_width_now : OkM P w K mg base CX0 1 C "width_now" ["self"] (sp_Page_width_now C)) (G_Page_words_now : OkM P w K mg base CX0 1 C "words_now" ["self"] (sp_Page_words_now K C))
    (G_Page_table_now : OkM P w K mg base CX0 1 C "table_now" ["self"] (sp_Page_table_now K C)) (G_Page_starts_now : OkM P w K mg base CX0 5 C "starts_now" ["self"] (sp_Page_starts_now K C))
    (G_Page_lines_now : OkM P w K mg base (CXn P w) 6 C "lines_now" ["self"] (sp_Page_lines_now K C)) :
    Ok P w K mg base CX0 7 "_law_one_told" ["_law_page", "_law_place"] (sp__law_one_told C) := by
  refine A.ok sc__law_one_told (fun vs H Q E h => ?_) (fun f cdv A outer s H vs Q E hr h => ?_)
  · obtain ⟨Mu, p, q, m, k, rfl, _⟩ := h; rfl
  · obtain ⟨Mu, p, q, m, k, rfl, hk, pg, q⟩ := h
    refine ⟨_, (pss_cons (ps_if (pt_cmpR op_eq (pv 1) pe_int (nomark _)) (pss_one (ps_ret (pe_md0 (pv 0) PG.cl G_Page_width_now (hr.mono (by decide)) pass0))) pss_nil)
      (pss_cons (ps_if (pt_cmpR op_eq (pv 1) pe_int (nomark _)) (pss_one (ps_ret (pe_md0 (pv 0) PG.cl G_Page_words_now (hr.mono (by decide)) pass0))) pss_nil)
      (pss_cons (ps_if (pt_cmpR op_eq (pv 1) pe_int (nomark _)) (pss_one (ps_ret (pe_md0 (pv 0) PG.cl G_Page_table_now (hr.mono (by decide)) pass0))) pss_nil)
      (pss_cons (ps_if (pt_cmpR op_eq (pv 1) pe_int (nomark _)) (pss_one (ps_ret (pe_md0 (pv 0) PG.cl G_Page_starts_now (hr.mono (by decide)) pass0))) pss_nil)
      (pss_one (ps_ret (pe_md0 (pv 0) PG.cl G_Page_lines_now (hr.mono (by decide)) passN))))))), ?_⟩
    obtain ⟨dx, fs, r, t, e1, F, row⟩ := pg.ex
    obtain ⟨xs, ft, xl, tab⟩ := row.t
    have mok := pg.ok
    have lk : ∀ m : Str, m ≠ ("width" : Str) → m ≠ ("row" : Str) → m ≠ ("table" : Str) → m ≠ ("past" : Str) → fs.lookup m = none := F.no
    refine ⟨_, rfl, rfl, _, rfl, tst (c := (k : Int) = 0) dec_vi (fun z => ?_) (fun z0 => ?_)⟩
    · obtain rfl : k = 0 := by omega
      exact ⟨_, rfl, p, dx, fs, rfl, e1, lk _ (by decide +kernel) (by decide +kernel) (by decide +kernel) (by decide +kernel), p, dx, r, t, _, fs, m.st.2, rfl, e1, F, q H _ (Same.refl H) rfl⟩
    refine ⟨_, rfl, rfl, _, rfl, tst (c := (k : Int) = 1) dec_vi (fun z => ?_) (fun z1 => ?_)⟩
    · obtain rfl : k = 1 := by omega
      exact ⟨_, rfl, p, dx, fs, rfl, e1, lk _ (by decide +kernel) (by decide +kernel) (by decide +kernel) (by decide +kernel), p, dx, r, t, _, fs, m.st.2, m.st.1, rfl, e1, F, .of row.r.1, fun a na => q _ _ ((Same.refl H).new na) ⟨a, rfl, upd_same, pg.live.nin na⟩⟩
    refine ⟨_, rfl, rfl, _, rfl, tst (c := (k : Int) = 2) dec_vi (fun z => ?_) (fun z2 => ?_)⟩
    · obtain rfl : k = 2 := by omega
      exact ⟨_, rfl, p, dx, fs, rfl, e1, lk _ (by decide +kernel) (by decide +kernel) (by decide +kernel) (by decide +kernel), p, dx, r, t, _, fs, m.st.2, xs, rfl, e1, F, .of ft.1, fun a na => q _ _ ((Same.refl H).new na) ⟨a, xs, rfl, ⟨upd_same, pg.live.nin na⟩, xl, tab⟩⟩
    refine ⟨_, rfl, rfl, _, rfl, tst (c := (k : Int) = 3) dec_vi (fun z => ?_) (fun z3 => ?_)⟩
    · obtain rfl : k = 3 := by omega
      exact ⟨_, rfl, p, dx, fs, rfl, e1, lk _ (by decide +kernel) (by decide +kernel) (by decide +kernel) (by decide +kernel), p, dx, r, t, _, fs, m.st.2, m.st.1, xs, rfl, e1, F, .of row.r.1, .of ft.1, mok.st.bw, mok.st.wb, mok.st.ft, xl,
        fun H' o ks s1 no eo hb => q H' _ s1 ⟨o, ks, xs, rfl, ⟨eo, pg.live.nin no⟩, hb, tab⟩⟩
    · obtain rfl : k = 4 := by omega
      exact ⟨_, rfl, p, dx, fs, rfl, e1, lk _ (by decide +kernel) (by decide +kernel) (by decide +kernel) (by decide +kernel), p, dx, r, t, _, fs, m.st.2, m.st.1, xs, rfl, e1, F, .of row.r.1, .of ft.1, mok.st.bw, mok.st.wb, mok.st.ft, xl,
        fun H' o ks s1 no eo hb => q H' _ s1 ⟨o, ks, xs, rfl, ⟨eo, pg.live.nin no⟩, hb, tab⟩⟩

/-- a thing just made that will change -/
theorem PgAt.grow {C : Addr} {Mu : List Addr} {H H' : Hp} {p q : Addr} {m : Mo} (h : PgAt C Mu H p q m) {x : Addr} (n : H x = none) (s : Same H H') (e : H' x ≠ none) : PgAt C (x :: Mu) H' p q m := by
  have fz : ∀ {a o}, Fz Mu H a o → Fz (x :: Mu) H' a o := fun {a o} f => ⟨s _ _ f.1, (f.more n).2⟩
  have rw' : ∀ {r t s}, RowAt Mu H r t s → RowAt (x :: Mu) H' r t s := fun {r t s} f => ⟨fz f.r, by obtain ⟨xs, g1, g2⟩ := f.t; exact ⟨xs, fz g1, g2⟩⟩
  obtain ⟨dx, fs, r, t, e1, e2, e3⟩ := h.ex
  obtain ⟨M, f1, f2, f3⟩ := h.past
  refine ⟨h.ok, List.mem_cons_of_mem _ h.pm, List.mem_cons_of_mem _ h.qm, h.pq, fun b hb z => ?_, ⟨dx, fs, r, t, s _ _ e1, e2, rw' e3⟩, ⟨M, s _ _ f1, f2, fun e he => ⟨fz (f3 e he).a, rw' (f3 e he).row⟩⟩⟩
  rcases List.mem_cons.mp hb with y | y
  · rw [y] at z; exact e z
  · exact h.live b y (s.free z)
theorem Fz.less {Mu : List Addr} {H : Hp} {a x : Addr} {o : HO} (f : Fz (x :: Mu) H a o) : Fz Mu H a o := ⟨f.1, fun z => f.2 (List.mem_cons_of_mem _ z)⟩
def orders : List (List Nat) := [[0, 1, 2, 3, 4], [4, 3, 2, 1, 0], [3, 1, 4, 0, 2], [2, 4, 0, 3, 1], [1, 0, 4, 2, 3]]
theorem orders_ok : ∀ o ∈ orders, (∀ x ∈ o, x < 5) ∧ ∀ k : Fin 5, k.1 ∈ o := by decide
def sp__law_all_told (C : Addr) : Sp := fun vs H Q _ => ∃ (Mu : List Addr) (p q : Addr) (m : Mo) (way : Int), vs = [.ref p, .int way] ∧ PgAt C Mu H p q m ∧
  ∀ H' a ts, Same H H' → H a = none → H' a = some (.lst ts) → ts.length = 5 → (∀ k, k < 5 → ∃ v, ts[k]? = some v ∧ Tell Mu m.st H' k v) → Q (.ref a) H'
theorem ok__law_all_told {C : Addr} (A : At K mg "_law_all_told" ["_law_page", "_law_way"] st__law_all_told) (T : Bts mg) (G__law_one_told : Ok P w K mg base CX0 7 "_law_one_told" ["_law_page", "_law_place"] (sp__law_one_told C)) :
    Ok P w K mg base CX0 8 "_law_all_told" ["_law_page", "_law_way"] (sp__law_all_told C) := by
  refine A.ok sc__law_all_told (fun vs H Q E h => ?_) (fun f cdv A outer s H vs Q E hr h => ?_)
  · obtain ⟨Mu, p, q, m, way, rfl, _⟩ := h; rfl
  · obtain ⟨Mu, p, q, m, way, rfl, pg, k⟩ := h
    refine ⟨_, (pss_cons (ps_set (i := 2) sc__law_all_told.nd rfl (Or.inl rfl) (pe_lst (pa_cons pe_non (pa_cons pe_non (pa_cons pe_non (pa_cons pe_non (pa_cons pe_non pa_nil)))))))
      (pss_cons (ps_set (i := 3) sc__law_all_told.nd rfl (Or.inl rfl) (pe_lst (pa_cons (pe_lst (pa_cons pe_int (pa_cons pe_int (pa_cons pe_int (pa_cons pe_int (pa_cons pe_int pa_nil)))))) (pa_cons (pe_lst (pa_cons pe_int (pa_cons pe_int (pa_cons pe_int (pa_cons pe_int (pa_cons pe_int pa_nil)))))) (pa_cons (pe_lst (pa_cons pe_int (pa_cons pe_int (pa_cons pe_int (pa_cons pe_int (pa_cons pe_int pa_nil)))))) (pa_cons (pe_lst (pa_cons pe_int (pa_cons pe_int (pa_cons pe_int (pa_cons pe_int (pa_cons pe_int pa_nil)))))) (pa_cons (pe_lst (pa_cons pe_int (pa_cons pe_int (pa_cons pe_int (pa_cons pe_int (pa_cons pe_int pa_nil)))))) pa_nil)))))))
      (pss_cons (ps_for PassesOwn.never rfl (pi_list (pe_ix (ix_listK K) (pv 3) (pe_op op_mod (pv 1) pe_int) (fun _ _ => rfl))) (pg_name (i := 4) sc__law_all_told.nd rfl (Or.inl rfl))
      (pss_one (ps_asg (pe_cd G__law_one_told (hr.mono (by decide)) pass0 (pa_cons (pv 0) (pa_cons (pv 4) pa_nil))) (pg_sub (pv 2) (pv 4) set_list))))
      (pss_one (ps_ret (pv 2)))))), ?_⟩
    refine ⟨sz (by simp), fun a na => ?_⟩
    have s1 := (Same.refl H).new (o := HO.lst [.non, .non, .non, .non, .non]) na
    have ea1 : (upd H a (HO.lst [.non, .non, .non, .non, .non])) a = some (.lst [.non, .non, .non, .non, .non]) := upd_same
    generalize upd H a (HO.lst [.non, .non, .non, .non, .non]) = H1 at s1 ea1 ⊢
    refine ⟨sz (by simp), fun b1 nb1 => ⟨sz (by simp), fun b2 nb2 => ⟨sz (by simp), fun b3 nb3 => ⟨sz (by simp), fun b4 nb4 => ⟨sz (by simp), fun b5 nb5 => ?_⟩⟩⟩⟩⟩
    have t1 := (Same.refl H1).new (o := HO.lst [V.int 0, V.int 1, V.int 2, V.int 3, V.int 4]) nb1
    have e1 : (upd H1 b1 (HO.lst [V.int 0, V.int 1, V.int 2, V.int 3, V.int 4])) b1 = some (HO.lst [V.int 0, V.int 1, V.int 2, V.int 3, V.int 4]) := upd_same
    have t2 := t1.new (o := HO.lst [V.int 4, V.int 3, V.int 2, V.int 1, V.int 0]) nb2
    have e1 := kept e1 nb2 (o := HO.lst [V.int 4, V.int 3, V.int 2, V.int 1, V.int 0])
    have e2 : (upd (upd H1 b1 (HO.lst [V.int 0, V.int 1, V.int 2, V.int 3, V.int 4])) b2 (HO.lst [V.int 4, V.int 3, V.int 2, V.int 1, V.int 0])) b2 = some (HO.lst [V.int 4, V.int 3, V.int 2, V.int 1, V.int 0]) := upd_same
    have t3 := t2.new (o := HO.lst [V.int 3, V.int 1, V.int 4, V.int 0, V.int 2]) nb3
    have e1 := kept e1 nb3 (o := HO.lst [V.int 3, V.int 1, V.int 4, V.int 0, V.int 2])
    have e2 := kept e2 nb3 (o := HO.lst [V.int 3, V.int 1, V.int 4, V.int 0, V.int 2])
    have e3 : (upd (upd (upd H1 b1 (HO.lst [V.int 0, V.int 1, V.int 2, V.int 3, V.int 4])) b2 (HO.lst [V.int 4, V.int 3, V.int 2, V.int 1, V.int 0])) b3 (HO.lst [V.int 3, V.int 1, V.int 4, V.int 0, V.int 2])) b3 = some (HO.lst [V.int 3, V.int 1, V.int 4, V.int 0, V.int 2]) := upd_same
    have t4 := t3.new (o := HO.lst [V.int 2, V.int 4, V.int 0, V.int 3, V.int 1]) nb4
    have e1 := kept e1 nb4 (o := HO.lst [V.int 2, V.int 4, V.int 0, V.int 3, V.int 1])
    have e2 := kept e2 nb4 (o := HO.lst [V.int 2, V.int 4, V.int 0, V.int 3, V.int 1])
    have e3 := kept e3 nb4 (o := HO.lst [V.int 2, V.int 4, V.int 0, V.int 3, V.int 1])
    have e4 : (upd (upd (upd (upd H1 b1 (HO.lst [V.int 0, V.int 1, V.int 2, V.int 3, V.int 4])) b2 (HO.lst [V.int 4, V.int 3, V.int 2, V.int 1, V.int 0])) b3 (HO.lst [V.int 3, V.int 1, V.int 4, V.int 0, V.int 2])) b4 (HO.lst [V.int 2, V.int 4, V.int 0, V.int 3, V.int 1])) b4 = some (HO.lst [V.int 2, V.int 4, V.int 0, V.int 3, V.int 1]) := upd_same
    have t5 := t4.new (o := HO.lst [V.int 1, V.int 0, V.int 4, V.int 2, V.int 3]) nb5
    have e1 := kept e1 nb5 (o := HO.lst [V.int 1, V.int 0, V.int 4, V.int 2, V.int 3])
    have e2 := kept e2 nb5 (o := HO.lst [V.int 1, V.int 0, V.int 4, V.int 2, V.int 3])
    have e3 := kept e3 nb5 (o := HO.lst [V.int 1, V.int 0, V.int 4, V.int 2, V.int 3])
    have e4 := kept e4 nb5 (o := HO.lst [V.int 1, V.int 0, V.int 4, V.int 2, V.int 3])
    have e5 : (upd (upd (upd (upd (upd H1 b1 (HO.lst [V.int 0, V.int 1, V.int 2, V.int 3, V.int 4])) b2 (HO.lst [V.int 4, V.int 3, V.int 2, V.int 1, V.int 0])) b3 (HO.lst [V.int 3, V.int 1, V.int 4, V.int 0, V.int 2])) b4 (HO.lst [V.int 2, V.int 4, V.int 0, V.int 3, V.int 1])) b5 (HO.lst [V.int 1, V.int 0, V.int 4, V.int 2, V.int 3])) b5 = some (HO.lst [V.int 1, V.int 0, V.int 4, V.int 2, V.int 3]) := upd_same
    generalize (upd (upd (upd (upd (upd H1 b1 (HO.lst [V.int 0, V.int 1, V.int 2, V.int 3, V.int 4])) b2 (HO.lst [V.int 4, V.int 3, V.int 2, V.int 1, V.int 0])) b3 (HO.lst [V.int 3, V.int 1, V.int 4, V.int 0, V.int 2])) b4 (HO.lst [V.int 2, V.int 4, V.int 0, V.int 3, V.int 1])) b5 (HO.lst [V.int 1, V.int 0, V.int 4, V.int 2, V.int 3])) = H2 at t5 e1 e2 e3 e4 e5 ⊢
    refine ⟨sz (by simp), fun o no => ?_⟩
    have t6 := t5.new (o := HO.lst [V.ref b1, V.ref b2, V.ref b3, V.ref b4, V.ref b5]) no
    have eo : (upd H2 o (HO.lst [V.ref b1, V.ref b2, V.ref b3, V.ref b4, V.ref b5])) o = some (.lst [V.ref b1, V.ref b2, V.ref b3, V.ref b4, V.ref b5]) := upd_same
    have e1 := kept e1 no (o := HO.lst [V.ref b1, V.ref b2, V.ref b3, V.ref b4, V.ref b5])
    have e2 := kept e2 no (o := HO.lst [V.ref b1, V.ref b2, V.ref b3, V.ref b4, V.ref b5])
    have e3 := kept e3 no (o := HO.lst [V.ref b1, V.ref b2, V.ref b3, V.ref b4, V.ref b5])
    have e4 := kept e4 no (o := HO.lst [V.ref b1, V.ref b2, V.ref b3, V.ref b4, V.ref b5])
    have e5 := kept e5 no (o := HO.lst [V.ref b1, V.ref b2, V.ref b3, V.ref b4, V.ref b5])
    generalize upd H2 o (HO.lst [V.ref b1, V.ref b2, V.ref b3, V.ref b4, V.ref b5]) = H3 at t6 eo e1 e2 e3 e4 e5 ⊢
    have s3 := s1.trans t6
    have ea3 := t6 _ _ ea1
    have pg3 : PgAt C (a :: Mu) H3 p q m := pg.grow na s3 (by rw [ea3]; exact fun z => nomatch z)
    obtain ⟨j, hj⟩ : ∃ j : Nat, way % 5 = (j : Int) := ⟨(way % 5).toNat, by omega⟩
    have hb : ∃ (b : Addr) (od : List Nat), [V.ref b1, V.ref b2, V.ref b3, V.ref b4, V.ref b5][j]? = some (.ref b) ∧ H3 b = some (.lst (vis (toI od))) ∧ od ∈ orders := by
      rcases (show j = 0 ∨ j = 1 ∨ j = 2 ∨ j = 3 ∨ j = 4 by omega) with z | z | z | z | z <;> subst z
      · exact ⟨b1, [0, 1, 2, 3, 4], rfl, e1, by decide⟩
      · exact ⟨b2, [4, 3, 2, 1, 0], rfl, e2, by decide⟩
      · exact ⟨b3, [3, 1, 4, 0, 2], rfl, e3, by decide⟩
      · exact ⟨b4, [2, 4, 0, 3, 1], rfl, e4, by decide⟩
      · exact ⟨b5, [1, 0, 4, 2, 3], rfl, e5, by decide⟩
    obtain ⟨b, od, hb, eb, ho⟩ := hb
    obtain ⟨o1, o2⟩ := orders_ok od ho
    have ba : b ≠ a := fun z => by
      rw [z, ea3] at eb
      cases od with
      | nil => cases eb
      | cons x r => cases eb
    refine ⟨_, rfl, _, rfl, _, _, rfl, rfl, (show (0 : Int) < 5 by decide), o, _, _, _, rfl, rfl, .of eo, at_of hj hb, b, rfl, ⟨_, .of eb⟩, ?_⟩
    refine for_lst (f := V.int) (l := toI od) (fun d r σ H' => Kp [a] H3 H' ∧ (∃ y, σ = [some (.ref p), some (.int way), some (.ref a), some (.ref o), y]) ∧ ∃ ts, H' a = some (.lst ts) ∧ ts.length = 5 ∧ ∀ k : Nat, k < 5 → (k : Int) ∈ d → ∃ v, ts[k]? = some v ∧ Tell (a :: Mu) m.st H' k v) ?_ ?_ ?_ ?_
    · exact ⟨Kp.refl _ _, ⟨none, rfl⟩, _, ea3, rfl, fun k _ z => nomatch z⟩
    · rintro d r σ H' ⟨k1, _⟩
      exact .of (k1 _ _ (by simp [ba]) eb)
    · rintro d c r σ H' ed ⟨k1, ⟨y, rfl⟩, ts, ea', hl, ht⟩
      have hc : c ∈ toI od := by rw [ed]; simp
      obtain ⟨n, hn, rfl⟩ : ∃ n, n ∈ od ∧ ((n : Nat) : Int) = c := List.mem_map.mp hc
      have hn5 := o1 n hn
      have pg' : PgAt C (a :: Mu) H' p q m := pg3.keep k1 (by simp) (fun z => by
        rw [List.mem_singleton.mp z] at pg
        obtain ⟨dx, fs, r, t, g1, _⟩ := pg.ex
        rw [na] at g1; cases g1) (fun z => by
        rw [List.mem_singleton.mp z] at pg
        obtain ⟨L, g1, _⟩ := pg.past
        rw [na] at g1; cases g1) (fun x hx => by rw [List.mem_singleton.mp hx, ea']; exact fun z => nomatch z)
      refine ⟨_, rfl, _, rfl, _, p, q, m, n, rfl, hn5, pg', fun H4 v s4 tv => ?_⟩
      have ea4 := s4 _ _ ea'
      refine ⟨_, rfl, _, rfl, a, ts, _, n, rfl, rfl, ea4, ?_, ?_⟩
      · unfold ixN
        rw [if_pos (by omega), if_pos (by rw [hl]; omega)]; simp
      refine ⟨fun b o h e => ?_, ⟨_, rfl⟩, ts.set n v, upd_same, by rw [List.length_set]; exact hl, fun k hk hkd => ?_⟩
      · have hne : b ≠ a := fun z => h (by rw [z]; exact List.mem_singleton.mpr rfl)
        rw [upd_ne hne]
        exact s4 _ _ (k1 b o h e)
      · have mp : ∀ x o, Fz (a :: Mu) H4 x o → Fz (a :: Mu) (upd H4 a (.lst (ts.set n v))) x o := fun x o f => ⟨by
          rw [upd_ne (fun z => f.2 (by rw [z]; exact List.mem_cons_self))]; exact f.1, f.2⟩
        by_cases hkn : k = n
        · subst hkn
          exact ⟨v, by rw [List.getElem?_set_self (by omega)], tv.map mp⟩
        · have hkd' : (k : Int) ∈ d := by
            rcases List.mem_append.mp hkd with z | z
            · exact z
            · exact absurd (by have := List.mem_singleton.mp z; omega) hkn
          obtain ⟨v', h1, h2⟩ := ht k hk hkd'
          exact ⟨v', by rw [List.getElem?_set_ne (fun z => hkn z.symm)]; exact h1, (h2.map fun x o f => f.same s4).map mp⟩
    · rintro σ H' ⟨k1, ⟨y, rfl⟩, ts, ea', hl, ht⟩
      have sf : Same H H' := fun x o e => k1 x o (fun z => by rw [List.mem_singleton.mp z, na] at e; cases e) (s3 _ _ e)
      refine ⟨_, rfl, k H' a ts sf na ea' hl fun k hk => ?_⟩
      obtain ⟨v, h1, h2⟩ := ht k hk (List.mem_map.mpr ⟨k, o2 ⟨k, hk⟩, rfl⟩)
      exact ⟨v, h1, h2.map fun x o f => f.less⟩

abbrev HE4 := Addr × Addr × Addr × List V
/-- the pairs of lists that are held -/
structure HeldAt (Mu : List Addr) (H : Hp) (h : Addr) (k : Nat) : Prop where
  ex : ∃ L : List HE4, H h = some (.lst (L.map fun e => V.ref e.1)) ∧ L.length ≤ k ∧ ∀ e ∈ L, Fz Mu H e.1 (.tup [.ref e.2.1, .ref e.2.2.1]) ∧ Fz Mu H e.2.1 (.lst e.2.2.2) ∧ Fz Mu H e.2.2.1 (.lst e.2.2.2) ∧ e.2.2.2.all flatB = true
theorem HeldAt.keep {Mu L : List Addr} {H H' : Hp} {h : Addr} {k : Nat} (a : HeldAt Mu H h k) (kp : Kp L H H') (hl : ∀ x ∈ L, x ∈ Mu) (hh : h ∉ L) : HeldAt Mu H' h k := by
  obtain ⟨M, e, f, g⟩ := a.ex
  exact ⟨M, kp _ _ hh e, f, fun x hx => ⟨(g x hx).1.keep kp hl, (g x hx).2.1.keep kp hl, (g x hx).2.2.1.keep kp hl, (g x hx).2.2.2⟩⟩
theorem HeldAt.same {Mu : List Addr} {H H' : Hp} {h : Addr} {k : Nat} (a : HeldAt Mu H h k) (s : Same H H') : HeldAt Mu H' h k := a.keep (L := []) (Kp.of s) (fun _ z => nomatch z) (fun z => nomatch z)
theorem HeldAt.len {Mu : List Addr} {H : Hp} {h : Addr} {k : Nat} (a : HeldAt Mu H h k) : ∃ ps, H h = some (.lst ps) ∧ ps.length ≤ k := by
  obtain ⟨M, e, f, g⟩ := a.ex
  exact ⟨_, e, by rw [List.length_map]; exact f⟩
theorem flatB_vts (ws : List (List Nat)) : (vts ws).all flatB = true := List.all_eq_true.mpr fun x hx => by
  obtain ⟨w, _, rfl⟩ := List.mem_map.mp hx; rfl
theorem flatB_vis (xs : List Int) : (vis xs).all flatB = true := List.all_eq_true.mpr fun x hx => by
  obtain ⟨w, _, rfl⟩ := List.mem_map.mp hx; rfl
/-- held.append((a, list(a))) -/
theorem HeldAt.push {Mu : List Addr} {H : Hp} {h a : Addr} {k : Nat} {u : List V} (hd : HeldAt Mu H h k) (hm : h ∈ Mu) (lv : Live Mu H) (fa : Fz Mu H a (.lst u)) (fl : u.all flatB = true) {b t : Addr} (nb : H b = none)
    (nt : (upd H b (.lst u)) t = none) : ∃ ps, (upd (upd H b (.lst u)) t (.tup [.ref a, .ref b])) h = some (.lst ps) ∧ ps.length ≤ k ∧
      Kp [h] H (upd (upd (upd H b (.lst u)) t (.tup [.ref a, .ref b])) h (.lst (ps ++ [.ref t]))) ∧ HeldAt Mu (upd (upd (upd H b (.lst u)) t (.tup [.ref a, .ref b])) h (.lst (ps ++ [.ref t]))) h (k + 1) ∧
      Live Mu (upd (upd (upd H b (.lst u)) t (.tup [.ref a, .ref b])) h (.lst (ps ++ [.ref t]))) := by
  obtain ⟨M, e, f, g⟩ := hd.ex
  have s1 := (Same.refl H).new (o := HO.lst u) nb
  have eb1 : (upd H b (HO.lst u)) b = some (.lst u) := upd_same
  have s2 := s1.new (o := HO.tup [.ref a, .ref b]) nt
  have eb2 := kept eb1 nt (o := HO.tup [.ref a, .ref b])
  have et2 : (upd (upd H b (HO.lst u)) t (HO.tup [.ref a, .ref b])) t = some (.tup [.ref a, .ref b]) := upd_same
  have nt0 := s1.free nt
  generalize upd (upd H b (HO.lst u)) t (HO.tup [.ref a, .ref b]) = H2 at s2 eb2 et2 ⊢
  have k3 : Kp [h] H2 (upd H2 h (.lst (M.map (fun e => V.ref e.1) ++ [.ref t]))) := fun x o n e => by rw [upd_ne (fun z => n (by rw [z]; exact List.mem_singleton.mpr rfl))]; exact e
  have sub : ∀ x ∈ [h], x ∈ Mu := fun x hx => by rw [List.mem_singleton.mp hx]; exact hm
  have k23 : Kp [h] H (upd H2 h (.lst (M.map (fun e => V.ref e.1) ++ [.ref t]))) := (Kp.of s2).trans k3
  refine ⟨M.map fun e => V.ref e.1, s2 _ _ e, by rw [List.length_map]; exact f, k23, ⟨M ++ [((t, a, b, u) : HE4)], ?_, ?_, fun x hx => ?_⟩, fun x hx z => ?_⟩
  · rw [upd_same, List.map_append]; rfl
  · rw [List.length_append, List.length_singleton]; omega
  · rcases List.mem_append.mp hx with z | z
    · exact ⟨(g x z).1.keep k23 sub, (g x z).2.1.keep k23 sub, (g x z).2.2.1.keep k23 sub, (g x z).2.2.2⟩
    · rw [List.mem_singleton.mp z]
      have ft : Fz Mu H2 t (.tup [.ref a, .ref b]) := ⟨et2, lv.nin nt0⟩
      have fb : Fz Mu H2 b (.lst u) := ⟨eb2, lv.nin nb⟩
      exact ⟨ft.keep k3 sub, fa.keep k23 sub, fb.keep k3 sub, fl⟩
  · by_cases hxh : x = h
    · rw [hxh, upd_same] at z; cases z
    · exact lv x hx (k23.free (by simp [hxh]) z)
def sp__law_shows (K : PySem.W.Frag) : Sp := fun vs H Q _ => ∃ (Mu : List Addr) (r o h : Addr) (s : Pst) (ts : List V) (k : Nat), vs = [.ref r, .int s.2, .ref o, .ref h] ∧ Live Mu H ∧ h ∈ Mu ∧ Pok s ∧ Fz Mu H r (.lst (vts s.1)) ∧ Fz Mu H o (.lst ts) ∧ ts.length = 5 ∧
  (∀ i, i < 5 → ∃ v, ts[i]? = some v ∧ Tell Mu s H i v) ∧ HeldAt Mu H h k ∧ k ≤ 1000 ∧ ∀ H', Kp [h] H H' → HeldAt Mu H' h (k + 3) → Q (.bl true) H'
theorem ok__law_shows (A : At K mg "_law_shows" ["_law_row", "_law_width", "_law_told_here", "_law_held"] st__law_shows) (T : Bts mg) (G__law_wholes : Ok P w K mg base CX0 2 "_law_wholes" ["_law_found"] (sp__law_wholes K))
    (G__law_texts : Ok P w K mg base CX0 1 "_law_texts" ["_law_found", "_law_due_here"] (sp__law_texts K))
    (G__law_table_right : Ok P w K mg base CX0 3 "_law_table_right" ["_law_row", "_law_width", "_law_found"] (sp__law_table_right K))
    (G__law_starts_by_table : Ok P w K mg base CX0 1 "_law_starts_by_table" ["_law_row", "_law_width", "_law_told_here"] (sp__law_starts_by_table K)) :
    Ok P w K mg base CX0 4 "_law_shows" ["_law_row", "_law_width", "_law_told_here", "_law_held"] (sp__law_shows K) := by
  refine A.ok sc__law_shows (fun vs H Q E h => ?_) (fun f cdv A outer s H vs Q E hr h => ?_)
  · obtain ⟨Mu, r, o, h, s, ts, k, rfl, _⟩ := h; rfl
  · obtain ⟨Mu, r, o, h, s, ts, k, rfl, lv, hm, pok, fr, fo, tl, tt, hd, hk, q⟩ := h
    refine ⟨_, (pss_cons (ps_if (pt_not (pt_val (pe_cd G__law_table_right (hr.mono (by decide)) pass0 (pa_cons (pv 0) (pa_cons (pv 1) (pa_cons (pe_ix (ix_listK K) (pv 2) pe_int (fun _ _ => rfl)) pa_nil)))))) (pss_one (ps_ret pe_bl)) pss_nil)
      (pss_cons (ps_set (i := 4) sc__law_shows.nd rfl (Or.inr rfl) (pe_ix (ix_listK K) (pv 2) pe_int (fun _ _ => rfl)))
      (pss_cons (ps_if (PW.pt (pw_or (pt_not (pt_val (pe_cd G__law_wholes (hr.mono (by decide)) pass0 (pa_cons (pv 4) pa_nil)))) (pw_or1 (pt_cmpR (op_neL hr) (pv 4) (pe_cd G__law_starts_by_table (hr.mono (by decide)) pass0 (pa_cons (pv 0) (pa_cons (pv 1) (pa_cons (pe_ix (ix_listK K) (pv 2) pe_int (fun _ _ => rfl)) pa_nil)))) (nomark _))))) (pss_one (ps_ret pe_bl)) pss_nil)
      (pss_cons (ps_set (i := 5) sc__law_shows.nd rfl (Or.inr rfl) (pe_op op_cat (pe_slice (sl_listK K) (pv 4) (po_some pe_int) po_none) (pe_lst (pa_cons (pe_callB (call_lenK K) (by rfl) T.m_len PySem.boot_len (pa_cons (pv 0) pa_nil)) pa_nil))))
      (pss_cons (ps_expr (pe_bm PySem.F.plainAttrs_list PySem.F.slot_list_append PySem.F.type_list_append mt_append (pv 3) (pa_cons (pe_tup (pa_cons (pe_ix (ix_listK K) (pv 2) pe_int (fun _ _ => rfl)) (pa_cons (pe_callTy call_list_of (by rfl) T.m_list (by decide +kernel) (pa_cons (pe_ix (ix_listK K) (pv 2) pe_int (fun _ _ => rfl)) pa_nil)) pa_nil))) pa_nil)))
      (pss_cons (ps_expr (pe_bm PySem.F.plainAttrs_list PySem.F.slot_list_append PySem.F.type_list_append mt_append (pv 3) (pa_cons (pe_tup (pa_cons (pv 4) (pa_cons (pe_callTy call_list_of (by rfl) T.m_list (by decide +kernel) (pa_cons (pv 4) pa_nil)) pa_nil))) pa_nil)))
      (pss_cons (ps_expr (pe_bm PySem.F.plainAttrs_list PySem.F.slot_list_append PySem.F.type_list_append mt_append (pv 3) (pa_cons (pe_tup (pa_cons (pe_ix (ix_listK K) (pv 2) pe_int (fun _ _ => rfl)) (pa_cons (pe_callTy call_list_of (by rfl) T.m_list (by decide +kernel) (pa_cons (pe_ix (ix_listK K) (pv 2) pe_int (fun _ _ => rfl)) pa_nil)) pa_nil))) pa_nil)))
      (pss_one (ps_ret (pe_cd G__law_texts (hr.mono (by decide)) pass0 (pa_cons (pe_ix (ix_listK K) (pv 2) pe_int (fun _ _ => rfl)) (pa_cons (pe_lc (own := [("_law_k", 6)]) (g := gName 6) (tt := tYes) rfl sc__law_shows.nd (pi_range1 (by rfl) T.m_range (pa_cons (pe_callB (call_lenK K) (by rfl) T.m_len PySem.boot_len (pa_cons (pv 4) pa_nil)) pa_nil)) (blkOk_by (own := [("_law_k", 6)]) (N := N__law_shows) (sc := defScope st__law_shows) (by decide +kernel)) (fun _ _ _ _ _ => pg_name (i := 6) sc__law_shows.nd rfl (Or.inl rfl)) (fun _ _ _ _ _ => pts_nil) (fun _ _ _ _ _ => (pe_joinK K pe_str (pe_slice (sl_listK K) (pv 0) (po_some (pe_ix (ix_listK K) (pv 4) (pv 6) (fun _ _ => rfl))) (po_some (pe_ix (ix_listK K) (pv 5) (pv 6) (fun _ _ => rfl))))))) pa_nil)))))))))))), ?_⟩
    obtain ⟨v2, i2, a2, xs, rfl, f2, xl, tab⟩ := tt 2 (by decide)
    obtain ⟨v3, i3, a3, ks, xs3, rfl, f3, bc3, tab3⟩ := tt 3 (by decide)
    obtain ⟨v4, i4, a4, ks4, xs4, rfl, f4, bc4, tab4⟩ := tt 4 (by decide)
    have bc : Bc s.1 s.2 (tb xs) 0 ks := bc3.congr (Tab.only tab3 tab)
    have bc4' : Bc s.1 s.2 (tb xs) 0 ks4 := bc4.congr (Tab.only tab4 tab)
    have hb := pok.bw
    have hle := pok.le
    refine ⟨_, rfl, _, rfl, _, rfl, o, _, ((2 : Nat) : Int), _, rfl, rfl, .of fo.1, atI_nat i2, ?_⟩
    refine ⟨r, a2, s.1, s.2, xs, rfl, .of fr.1, f2.1, hb, pok.wb, pok.ft, xl, tab, true, rfl, iteF ?_⟩
    refine ⟨_, rfl, o, _, ((3 : Nat) : Int), _, rfl, rfl, .of fo.1, atI_nat i3, ?_⟩
    refine ⟨_, rfl, a3, toI ks, rfl, f3.1, true, rfl, iteF ?_⟩
    refine ⟨_, rfl, _, rfl, _, rfl, _, rfl, o, _, ((2 : Nat) : Int), _, rfl, rfl, .of fo.1, atI_nat i2, ?_⟩
    refine ⟨r, a2, s.1, s.2, xs, rfl, .of fr.1, .of f2.1, hb, pok.wb, pok.ft, xl, tab, fun H1 o1 ks1 s1 no1 eo1 bc1 => ?_⟩
    obtain rfl := Bc.only bc bc1
    obtain rfl := Bc.only bc bc4'
    have f3' := f3.same s1
    refine ⟨a3, o1, _, _, rfl, rfl, .of f3'.1, .of eo1, flat_vis _, flat_vis _, _, rfl, tsn (c := True) (by simp) (fun z => absurd trivial z) (fun _ => ?_)⟩
    have hc := bc.fc.ch
    have hcl := hc.len
    refine ⟨_, rfl, _, rfl, a3, _, rfl, .of f3'.1, fun c nc => ?_⟩
    have s2 := s1.new (o := HO.lst (cutV (vis (toI ks)) (some 1) none)) nc
    have ec : (upd H1 c (HO.lst (cutV (vis (toI ks)) (some 1) none))) c = some (.lst (vis ((toI ks).drop 1))) := by
      rw [upd_same]; exact congrArg some (congrArg HO.lst (cut_from V.int (toI ks) 1))
    generalize upd H1 c (HO.lst (cutV (vis (toI ks)) (some 1) none)) = H2 at s2 ec ⊢
    refine ⟨_, rfl, r, _, rfl, .inl (.of (fr.same s2).1), sz (by simp), fun b nb => ?_⟩
    have s3 := s2.new (o := HO.lst [V.int ((vts s.1).length : Nat)]) nb
    have ec3 := kept ec nb (o := HO.lst [V.int ((vts s.1).length : Nat)])
    have eb3 : (upd H2 b (HO.lst [V.int ((vts s.1).length : Nat)])) b = some (.lst [V.int ((vts s.1).length : Nat)]) := upd_same
    generalize upd H2 b (HO.lst [V.int ((vts s.1).length : Nat)]) = H3 at s3 ec3 eb3 ⊢
    refine ⟨c, b, _, _, rfl, rfl, ec3, eb3, sz (by rw [List.length_map, List.length_drop, toI_length]; simp; omega), fun g ng => ?_⟩
    rw [show vis ((toI ks).drop 1) ++ [V.int ((vts s.1).length : Nat)] = vis (toI (ks.drop 1 ++ [s.1.length])) by rw [List.length_map]; exact ends_vis ks s.1.length]
    have s4 := s3.new (o := HO.lst (vis (toI (ks.drop 1 ++ [s.1.length])))) ng
    have eg : (upd H3 g (HO.lst (vis (toI (ks.drop 1 ++ [s.1.length]))))) g = some (.lst (vis (toI (ks.drop 1 ++ [s.1.length])))) := upd_same
    have ng0 := s3.free ng
    generalize upd H3 g (HO.lst (vis (toI (ks.drop 1 ++ [s.1.length])))) = H4 at s4 eg ⊢
    have fg4 : Fz Mu H4 g (.lst (vis (toI (ks.drop 1 ++ [s.1.length])))) := ⟨eg, lv.nin ng0⟩
    have lv4 := lv.same s4
    have hd4 := hd.same s4
    have fr4 := fr.same s4
    have fo4 := fo.same s4
    have f24 := f2.same s4
    have f34 := f3.same s4
    have f44 := f4.same s4
    have k04 : Kp [h] H H4 := Kp.of s4
    clear s2 s3 s1 s4 ec3 eb3 ec eg lv hd fr fo f2 f3 f4 bc1 bc3 bc4 bc4' eo1 no1 nc nb ng tt f3'
    have sub : ∀ x ∈ [h], x ∈ Mu := fun x hx => by rw [List.mem_singleton.mp hx]; exact hm
    -- the three pairs
    obtain ⟨p0, eh0, _⟩ := hd4.len
    refine ⟨_, rfl, .inl ⟨rfl, _, .of eh0⟩, _, rfl, o, _, ((2 : Nat) : Int), _, rfl, rfl, .of fo4.1, atI_nat i2, _, rfl, o, _, ((2 : Nat) : Int), _, rfl, rfl, .of fo4.1, atI_nat i2, a2, _, rfl, .inl (.of f24.1), fun b nb => ⟨sz (by simp), fun t nt => ?_⟩⟩
    obtain ⟨p1, eh1, hp1, k5, hd5, lv5⟩ := hd4.push hm lv4 f24 (flatB_vis xs) nb nt
    refine ⟨h, p1, _, rfl, rfl, eh1, szl (by omega), ?_⟩
    generalize upd (upd (upd H4 b (HO.lst (vis xs))) t (HO.tup [V.ref a2, V.ref b])) h (HO.lst (p1 ++ [V.ref t])) = H5 at k5 hd5 lv5 ⊢
    have fr5 := fr4.keep k5 sub
    have fo5 := fo4.keep k5 sub
    have f35 := f34.keep k5 sub
    have f45 := f44.keep k5 sub
    have fg5 := fg4.keep k5 sub
    have k05 := k04.trans k5
    obtain ⟨p0, eh0, _⟩ := hd5.len
    refine ⟨_, rfl, .inl ⟨rfl, _, .of eh0⟩, _, rfl, _, rfl, a3, _, rfl, .inl (.of f35.1), fun b nb => ⟨sz (by simp), fun t nt => ?_⟩⟩
    obtain ⟨p1, eh1, hp1, k6, hd6, lv6⟩ := hd5.push hm lv5 f35 (flatB_vis (toI ks)) nb nt
    refine ⟨h, p1, _, rfl, rfl, eh1, szl (by omega), ?_⟩
    generalize upd (upd (upd H5 b (HO.lst (vis (toI ks)))) t (HO.tup [V.ref a3, V.ref b])) h (HO.lst (p1 ++ [V.ref t])) = H6 at k6 hd6 lv6 ⊢
    have fr6 := fr5.keep k6 sub
    have fo6 := fo5.keep k6 sub
    have f36 := f35.keep k6 sub
    have f46 := f45.keep k6 sub
    have fg6 := fg5.keep k6 sub
    have k06 := k05.trans k6
    obtain ⟨p0, eh0, _⟩ := hd6.len
    refine ⟨_, rfl, .inl ⟨rfl, _, .of eh0⟩, _, rfl, o, _, ((4 : Nat) : Int), _, rfl, rfl, .of fo6.1, atI_nat i4, _, rfl, o, _, ((4 : Nat) : Int), _, rfl, rfl, .of fo6.1, atI_nat i4, a4, _, rfl, .inl (.of f46.1), fun b nb => ⟨sz (by simp), fun t nt => ?_⟩⟩
    obtain ⟨p1, eh1, hp1, k7, hd7, lv7⟩ := hd6.push hm lv6 f46 (flatB_vts (lns s.1 ks)) nb nt
    refine ⟨h, p1, _, rfl, rfl, eh1, szl (by omega), ?_⟩
    generalize upd (upd (upd H6 b (HO.lst (vts (lns s.1 ks)))) t (HO.tup [V.ref a4, V.ref b])) h (HO.lst (p1 ++ [V.ref t])) = H7 at k7 hd7 lv7 ⊢
    have fr7 := fr6.keep k7 sub
    have fo7 := fo6.keep k7 sub
    have f37 := f36.keep k7 sub
    have f47 := f46.keep k7 sub
    have fg7 := fg6.keep k7 sub
    have k07 := k06.trans k7
    refine ⟨_, rfl, o, _, ((4 : Nat) : Int), _, rfl, rfl, .of fo7.1, atI_nat i4, ?_⟩
    refine ⟨_, rfl, a3, _, rfl, .inl (.of f37.1), ks.length, by rw [List.length_map, toI_length], by omega, by omega, fun D hD => ?_⟩
    have hln := pairs_length s.1.length ks
    refine lc_range (lo := 0) (n := ks.length) (fun i H' => Same H7 H' ∧ H' D = some (.lst (vts ((lns s.1 ks).take i)))) ?_ ?_ ?_
    · exact ⟨(Same.refl _).new hD, upd_same⟩
    · rintro i H' hi ⟨s2, eD⟩
      have e0 : (0 + (i : Int)) = (i : Int) := by omega
      obtain ⟨pp, hpp⟩ : ∃ pp, (pairs s.1.length ks)[i]? = some pp := ⟨_, List.getElem?_eq_getElem (by omega)⟩
      obtain ⟨g1, g2⟩ := pairs_get hpp
      have y1 : (vis (toI ks))[i]? = some (V.int (pp.1 : Nat)) := flat_get (toI_get g1)
      have y2 : (vis (toI (ks.drop 1 ++ [s.1.length])))[i]? = some (V.int (pp.2 : Nat)) := flat_get (toI_get g2)
      have hln2 : (lns s.1 ks)[i]? = some (jn [32] (seg s.1 pp.1 pp.2)) := by unfold lns; rw [List.getElem?_map, hpp]; rfl
      refine ⟨rfl, ?_⟩
      refine ⟨⟨_, rfl⟩, _, rfl, _, rfl, _, rfl, a3, _, _, _, rfl, rfl, .of (f37.same s2).1, at_of e0 y1, pp.1, rfl, _, rfl, _, rfl, g, _, _, _, rfl, rfl, .of (fg7.same s2).1, at_of e0 y2, pp.2, rfl, r, _, rfl, .of (fr7.same s2).1, fun c nc => ?_⟩
      have ec : cutV (vts s.1) (some (pp.1 : Int)) (some (pp.2 : Int)) = vts (seg s.1 pp.1 pp.2) := cut_ft vt s.1 pp.1 pp.2
      have t1 := total_seg s.1 pp.1 pp.2
      have t2 := seg_le s.1 pp.1 pp.2
      have t3 := hb.tot
      have t4 := hb.le
      have s3 := s2.new (o := HO.lst (cutV (vts s.1) (some (pp.1 : Int)) (some (pp.2 : Int)))) nc
      have eD3 := kept eD nc (o := HO.lst (cutV (vts s.1) (some (pp.1 : Int)) (some (pp.2 : Int))))
      refine ⟨_, c, (seg s.1 pp.1 pp.2).map tx, rfl, rfl, .inl (.of (by rw [upd_same, ec, map_vt])), ?_, ?_⟩
      · rw [sum_tx, lit_sp, tx_len, List.length_map]
        simp only [List.length_cons, List.length_nil]
        omega
      · rw [lit_sp, join_tx]
        refine ⟨_, eD3, by rw [List.length_map, List.length_take, lns_length]; exact szl (by omega), s3.put hD, ?_⟩
        rw [upd_same, List.take_add_one, hln2, Option.toList_some, vts_app]
    · rintro H' ⟨s9, eD⟩
      rw [List.take_of_length_le (by rw [lns_length]; omega)] at eD
      exact ⟨a4, D, lns s.1 ks, rfl, (f47.same s9).1, .of eD, by rw [lns_length]; omega, q H' (k07.trans (Kp.of s9)) (hd7.same s9)⟩

theorem HeldAt.more {Mu : List Addr} {H : Hp} {h : Addr} {k j : Nat} (a : HeldAt Mu H h k) (hk : k ≤ j) : HeldAt Mu H h j := by
  obtain ⟨M, e, f, g⟩ := a.ex
  exact ⟨M, e, Nat.le_trans f hk, g⟩
def sp__law_stands (C : Addr) : Sp := fun vs H Q _ => ∃ (Mu : List Addr) (p q r h : Addr) (m : Mo) (b : Bool) (way : Int) (k : Nat), vs = [.ref p, .ref r, .int m.st.2, .bl b, .ref h, .int way] ∧ PgAt C Mu H p q m ∧ h ∈ Mu ∧ Fz Mu H r (.lst (vts m.st.1)) ∧ HeldAt Mu H h k ∧ k ≤ 900 ∧
  ∀ H', Kp [h] H H' → HeldAt Mu H' h (k + 4) → Q (.bl true) H'
theorem ok__law_stands {C : Addr} (A : At K mg "_law_stands" ["_law_page", "_law_row", "_law_width", "_law_fully", "_law_held", "_law_way"] st__law_stands) (T : Bts mg) (PG : PgC K C) (G__law_whole : Ok P w K mg base CX0 1 "_law_whole" ["_law_found"] sp__law_whole)
    (G__law_texts : Ok P w K mg base CX0 1 "_law_texts" ["_law_found", "_law_due_here"] (sp__law_texts K))
    (G__law_all_told : Ok P w K mg base CX0 8 "_law_all_told" ["_law_page", "_law_way"] (sp__law_all_told C))
    (G__law_shows : Ok P w K mg base CX0 4 "_law_shows" ["_law_row", "_law_width", "_law_told_here", "_law_held"] (sp__law_shows K))
    (G_Page_width_now : OkM P w K mg base CX0 1 C "width_now" ["self"] (sp_Page_width_now C)) (G_Page_words_now : OkM P w K mg base CX0 1 C "words_now" ["self"] (sp_Page_words_now K C)) :
    Ok P w K mg base CX0 9 "_law_stands" ["_law_page", "_law_row", "_law_width", "_law_fully", "_law_held", "_law_way"] (sp__law_stands C) := by
  refine A.ok sc__law_stands (fun vs H Q E h => ?_) (fun f cdv A outer s H vs Q E hr h => ?_)
  · obtain ⟨Mu, p, q, r, h, m, b, way, k, rfl, _⟩ := h; rfl
  · obtain ⟨Mu, p, q, r, h, m, b, way, k, rfl, pg, hm, fr, hd, hk, qq⟩ := h
    refine ⟨_, (C8.pss_cut (ps_set (i := 3) sc__law_stands.nd rfl (Or.inl rfl) (pe_or (pv 3) (pe_one (pe_cmpR op_lt (pe_callB (call_lenK K) (by rfl) T.m_len PySem.boot_len (pa_cons (pv 1) pa_nil)) pe_int (nomark _)))))
      (pss_cons (ps_set (i := 6) sc__law_stands.nd rfl (Or.inl rfl) (pe_lst (pa_cons (pv 2) (pa_cons pe_non (pa_cons pe_non (pa_cons pe_non (pa_cons pe_non pa_nil)))))))
      (C8.pss_cut (ps_if (pt_val (pv 3)) (pss_one (ps_set (i := 6) sc__law_stands.nd rfl (Or.inl rfl) (pe_cd G__law_all_told (hr.mono (by decide)) pass0 (pa_cons (pv 0) (pa_cons (pv 5) pa_nil))))) (pss_one (ps_if (pt_cmpR op_eq (pe_op op_mod (pv 5) pe_int) pe_int (nomark _)) (pss_cons (ps_asg (pe_md0 (pv 0) PG.cl G_Page_words_now (hr.mono (by decide)) pass0) (pg_sub (pv 6) pe_int set_list))
      (pss_one (ps_asg (pe_md0 (pv 0) PG.cl G_Page_width_now (hr.mono (by decide)) pass0) (pg_sub (pv 6) pe_int set_list)))) (pss_one (ps_ret pe_bl)))))
      (pss_cons (ps_if (PW.pt (pw_or (pt_not (pt_val (pe_cd G__law_whole (hr.mono (by decide)) pass0 (pa_cons (pe_ix (ix_listK K) (pv 6) pe_int (fun _ _ => rfl)) pa_nil)))) (pw_or (pt_cmpR op_ne (pe_ix (ix_listK K) (pv 6) pe_int (fun _ _ => rfl)) (pv 2) (nomark _)) (pw_or1 (pt_not (pt_val (pe_cd G__law_texts (hr.mono (by decide)) pass0 (pa_cons (pe_ix (ix_listK K) (pv 6) pe_int (fun _ _ => rfl)) (pa_cons (pv 1) pa_nil))))))))) (pss_one (ps_ret pe_bl)) pss_nil)
      (pss_cons (ps_expr (pe_bm PySem.F.plainAttrs_list PySem.F.slot_list_append PySem.F.type_list_append mt_append (pv 4) (pa_cons (pe_tup (pa_cons (pe_ix (ix_listK K) (pv 6) pe_int (fun _ _ => rfl)) (pa_cons (pe_callTy call_list_of (by rfl) T.m_list (by decide +kernel) (pa_cons (pe_ix (ix_listK K) (pv 6) pe_int (fun _ _ => rfl)) pa_nil)) pa_nil))) pa_nil)))
      (pss_one (ps_ret (pe_or (pe_not (pv 3)) (pe_one (pe_cd G__law_shows (hr.mono (by decide)) pass0 (pa_cons (pv 1) (pa_cons (pv 2) (pa_cons (pv 6) (pa_cons (pv 4) pa_nil)))))))))))))), ?_⟩
    obtain ⟨dx, fs, r0, t0, e1, F, row⟩ := pg.ex
    have mok := pg.ok
    have lk : ∀ m : Str, m ≠ ("width" : Str) → m ≠ ("row" : Str) → m ≠ ("table" : Str) → m ≠ ("past" : Str) → fs.lookup m = none := F.no
    refine ⟨fun σ H' => H' = H ∧ ∃ c, σ = [some (.ref p), some (.ref r), some (.int m.st.2), some (.bl c), some (.ref h), some (.int way), none], ?_, ?_⟩
    · refine ⟨_, rfl, b, rfl, ?_⟩
      cases b with
      | true => exact iteT ⟨rfl, _, rfl⟩
      | false => exact iteF ⟨_, rfl, r, _, rfl, .inl (.of fr.1), _, _, rfl, rfl, rfl, _, rfl⟩
    rintro σ H0 ⟨rfl, c, rfl⟩
    refine ⟨_, rfl, sz (by simp), fun a na => ?_⟩
    have s1 := (Same.refl H0).new (o := HO.lst [.int m.st.2, .non, .non, .non, .non]) na
    have ea1 : (upd H0 a (HO.lst [.int m.st.2, .non, .non, .non, .non])) a = some (.lst [.int m.st.2, .non, .non, .non, .non]) := upd_same
    generalize upd H0 a (HO.lst [.int m.st.2, .non, .non, .non, .non]) = H1 at s1 ea1 ⊢
    refine ⟨fun σ H' => Same H0 H' ∧ ∃ (o w : Addr) (ts : List V), σ = [some (.ref p), some (.ref r), some (.int m.st.2), some (.bl c), some (.ref h), some (.int way), some (.ref o)] ∧ Fz Mu H' o (.lst ts) ∧ ts.length = 5 ∧ ts[0]? = some (.int m.st.2) ∧ ts[1]? = some (.ref w) ∧
      Fz Mu H' w (.lst (vts m.st.1)) ∧ (c = true → ∀ i, i < 5 → ∃ v, ts[i]? = some v ∧ Tell Mu m.st H' i v), ?_, ?_⟩
    · refine ⟨_, rfl, c, rfl, ?_⟩
      cases c with
      | true =>
        refine iteT ?_
        refine ⟨_, rfl, _, rfl, Mu, p, q, m, way, rfl, pg.same s1, fun H2 o ts s2 no eo hl ht => ?_⟩
        have s12 := s1.trans s2
        obtain ⟨v0, g0, rfl⟩ := ht 0 (by decide)
        obtain ⟨v1, g1, w, rfl, fw⟩ := ht 1 (by decide)
        exact ⟨s12, o, w, ts, rfl, ⟨eo, pg.live.nin (s1.free no)⟩, hl, g0, g1, fw, fun _ => ht⟩
      | false =>
        refine iteF ?_
        refine ⟨_, rfl, _, _, rfl, rfl, (show (0 : Int) < 3 by decide), rfl, _, rfl, tst (c := way % 3 = 1) dec_vi (fun _ => ?_) (fun _ => ?_)⟩
        · have ha : ∀ {b : Addr} {o : HO}, H0 b = some o → b ≠ a := fun {b o} e z => by rw [z, na] at e; cases e
          refine ⟨_, rfl, p, dx, fs, rfl, s1 _ _ e1, lk _ (by decide +kernel) (by decide +kernel) (by decide +kernel) (by decide +kernel), p, dx, r0, t0, q, fs, m.st.2, m.st.1, rfl, s1 _ _ e1, F, .of (row.r.same s1).1, fun w nw => ?_⟩
          have s2 := s1.new (o := HO.lst (vts m.st.1)) nw
          have ea2 := kept ea1 nw (o := HO.lst (vts m.st.1))
          have ew2 : (upd H1 w (HO.lst (vts m.st.1))) w = some (.lst (vts m.st.1)) := upd_same
          have nw0 := s1.free nw
          have wa : w ≠ a := fun z => by rw [z, ea1] at nw; cases nw
          generalize upd H1 w (HO.lst (vts m.st.1)) = H2 at s2 ea2 ew2 ⊢
          refine ⟨_, rfl, a, _, _, 1, rfl, rfl, ea2, rfl, ?_⟩
          have s3 : Same H0 (upd H2 a (.lst ([V.int m.st.2, V.non, V.non, V.non, V.non].set 1 (.ref w)))) := fun b o e => by rw [upd_ne (ha e)]; exact s2 _ _ e
          have ea3 : (upd H2 a (.lst ([V.int m.st.2, V.non, V.non, V.non, V.non].set 1 (.ref w)))) a = some (.lst [V.int m.st.2, V.ref w, V.non, V.non, V.non]) := upd_same
          have ew3 : (upd H2 a (.lst ([V.int m.st.2, V.non, V.non, V.non, V.non].set 1 (.ref w)))) w = some (.lst (vts m.st.1)) := by rw [upd_ne wa]; exact ew2
          generalize upd H2 a (.lst ([V.int m.st.2, V.non, V.non, V.non, V.non].set 1 (.ref w))) = H3 at s3 ea3 ew3 ⊢
          refine ⟨_, rfl, p, dx, fs, rfl, s3 _ _ e1, lk _ (by decide +kernel) (by decide +kernel) (by decide +kernel) (by decide +kernel), p, dx, r0, t0, q, fs, m.st.2, rfl, s3 _ _ e1, F, ?_⟩
          refine ⟨_, rfl, a, _, _, 0, rfl, rfl, ea3, rfl, ?_⟩
          refine ⟨fun b o e => by rw [upd_ne (ha e)]; exact s3 _ _ e, a, w, [V.int m.st.2, V.ref w, V.non, V.non, V.non], rfl, ⟨upd_same, pg.live.nin na⟩, rfl, rfl, rfl, ⟨by rw [upd_ne wa]; exact ew3, pg.live.nin nw0⟩, fun z => by cases z⟩
        · exact qq H1 (Kp.of s1) ((hd.same s1).more (by omega))
    rintro σ H2 ⟨s2, o, w, ts, rfl, fo, hl, g0, g1, fw, ht⟩
    refine ⟨_, rfl, o, _, ((0 : Nat) : Int), _, rfl, rfl, .of fo.1, atI_nat g0, m.st.2, rfl, true, rfl, iteF ?_⟩
    refine ⟨_, rfl, o, _, ((0 : Nat) : Int), _, rfl, rfl, .of fo.1, atI_nat g0, _, rfl, rfl, _, rfl, ?_⟩
    rw [show (!decide (V.int m.st.2 = V.int m.st.2)) = false by simp]
    refine iteF ?_
    have hle := mok.st.le
    have fr2 := fr.same s2
    refine ⟨_, rfl, o, _, ((1 : Nat) : Int), _, rfl, rfl, .of fo.1, atI_nat g1, _, rfl, w, r, m.st.1, rfl, fw.1, .of fr2.1, by omega, true, rfl, iteF ?_⟩
    have hd2 := hd.same s2
    have lv2 := pg.live.same s2
    have sub : ∀ x ∈ [h], x ∈ Mu := fun x hx => by rw [List.mem_singleton.mp hx]; exact hm
    obtain ⟨p0, eh0, _⟩ := hd2.len
    refine ⟨_, rfl, .inl ⟨rfl, _, .of eh0⟩, _, rfl, o, _, ((1 : Nat) : Int), _, rfl, rfl, .of fo.1, atI_nat g1, _, rfl, o, _, ((1 : Nat) : Int), _, rfl, rfl, .of fo.1, atI_nat g1, w, _, rfl, .inl (.of fw.1), fun b nb => ⟨sz (by simp), fun t nt => ?_⟩⟩
    obtain ⟨p1, eh1, hp1, k3, hd3, lv3⟩ := hd2.push hm lv2 fw (flatB_vts m.st.1) nb nt
    refine ⟨h, p1, _, rfl, rfl, eh1, szl (by omega), ?_⟩
    generalize upd (upd (upd H2 b (HO.lst (vts m.st.1))) t (HO.tup [V.ref w, V.ref b])) h (HO.lst (p1 ++ [V.ref t])) = H3 at k3 hd3 lv3 ⊢
    have k03 : Kp [h] H0 H3 := (Kp.of s2).trans k3
    cases c with
    | false => exact ⟨_, rfl, _, rfl, _, rfl, iteT (qq H3 k03 (hd3.more (by omega)))⟩
    | true =>
      refine ⟨_, rfl, _, rfl, _, rfl, iteF ?_⟩
      refine ⟨_, rfl, _, rfl, _, rfl, _, rfl, Mu, r, o, h, m.st, ts, k + 1, rfl, lv3, hm, mok.st, fr2.keep k3 sub, fo.keep k3 sub, hl, fun i hi => ?_, hd3, by omega, fun H4 k4 hd4 => ?_⟩
      · obtain ⟨v, h1, h2⟩ := ht rfl i hi
        exact ⟨v, h1, h2.map fun x o f => f.keep k3 sub⟩
      · exact qq H4 (k03.trans k4) (hd4.more (by omega))

def good2 (k : Nat) : Deed → List Deed
  | .put i x => if k = 12 then [.widen (x.length : Nat), .put i x] else if k = 19 then [.drop 0, .put i x] else if k = 20 then [.put 0 [97], .put i x] else []
  | d => if k = 19 then [.drop 0, d] else if k = 20 then [.put 0 [97], d] else []
/-- a list of deeds -/
structure DsAt (Mu : List Addr) (H : Hp) (a : Addr) (ds : List Deed) : Prop where
  ex : ∃ L : List (Addr × Deed), Fz Mu H a (.lst (L.map fun e => V.ref e.1)) ∧ ds = L.map (·.2) ∧ ∀ e ∈ L, Fz Mu H e.1 (.tup e.2.vals)
def sp__law_deeds_by : Sp := fun vs H Q _ => ∃ (Mu : List Addr) (c : Int) (n : Nat) (wd : Int) (b : Bool), vs = [.int c, .int n, .int wd, .bl b] ∧ Live Mu H ∧ n ≤ 120 ∧
  ∀ (H' : Hp) (a : Addr) (ds : List Deed), Same H H' → DsAt Mu H' a ds → (∀ d ∈ ds, d.ok) → ds.length ≤ 119 → Q (.ref a) H'
theorem ok__law_deeds_by (A : At K mg "_law_deeds_by" ["_law_cell", "_law_count", "_law_width", "_law_filled"] st__law_deeds_by) (T : Bts mg) (G__law_sign_by : Ok P w K mg base CX0 1 "_law_sign_by" ["_law_cell"] sp__law_sign_by)
    (G__law_deed_by : Ok P w K mg base CX0 3 "_law_deed_by" ["_law_cell", "_law_count"] sp__law_deed_by) :
    Ok P w K mg base CX0 4 "_law_deeds_by" ["_law_cell", "_law_count", "_law_width", "_law_filled"] sp__law_deeds_by := by
  refine A.ok sc__law_deeds_by (fun vs H Q E h => ?_) (fun f cdv A outer s H vs Q E hr h => ?_)
  · obtain ⟨Mu, c, n, wd, b, rfl, _⟩ := h; rfl
  · obtain ⟨Mu, c, n, wd, b, rfl, lv, hn, q⟩ := h
    refine ⟨_, (pss_cons (ps_set (i := 4) sc__law_deeds_by.nd rfl (Or.inl rfl) (pe_cd G__law_deed_by (hr.mono (by decide)) pass0 (pa_cons (pv 0) (pa_cons (pv 1) pa_nil))))
      (pss_cons (ps_if (pt_cmpR op_ne (pe_ix (ix_tupK K) (pv 4) pe_int (fun _ _ => rfl)) pe_str (nomark _)) (pss_one (ps_ret (pe_lst (pa_cons (pv 4) pa_nil)))) pss_nil)
      (pss_cons (ps_if (PW.pt (pw_or (pt_val (pv 3)) (pw_or (pt_cmpR op_gt (pv 1) pe_int (nomark _)) (pw_or1 (pt_cmpR op_gt (pv 2) pe_int (nomark _)))))) (pss_one (ps_ret (pe_lst (pa_cons (pe_tup (pa_cons pe_str pa_nil)) pa_nil)))) pss_nil)
      (pss_one (ps_ret (pe_lc (own := [("_law_k", 5)]) (g := gName 5) (tt := tYes) rfl sc__law_deeds_by.nd (pi_range1 (by rfl) T.m_range (pa_cons (pe_op op_sub pe_int (pv 1)) pa_nil)) (blkOk_by (own := [("_law_k", 5)]) (N := N__law_deeds_by) (sc := defScope st__law_deeds_by) (by decide +kernel)) (fun _ _ _ _ _ => pg_name (i := 5) sc__law_deeds_by.nd rfl (Or.inl rfl)) (fun _ _ _ _ _ => pts_nil) (fun _ _ _ _ _ => (pe_tup (pa_cons pe_str (pa_cons pe_int (pa_cons (pe_cd G__law_sign_by (hr.mono (by decide)) pass0 (pa_cons (pe_op op_add (pv 0) (pv 5)) pa_nil)) pa_nil))))))))))), ?_⟩
    refine ⟨_, rfl, _, rfl, c, n, rfl, hn, fun H1 a deed s1 na ea hd => ?_⟩
    have fa : Fz Mu H1 a (.tup deed.vals) := ⟨ea, lv.nin na⟩
    refine ⟨_, rfl, a, _, ((0 : Nat) : Int), _, rfl, rfl, .of ea, Deed.at0 deed, rfl, _, rfl, tsn (c := deed.nm = "fill") (by rw [nmE]) (fun n1 => ?_) (fun n1 => ?_)⟩
    · refine ⟨_, rfl, sz (by simp), fun o no => ?_⟩
      have s2 := s1.new (o := HO.lst [.ref a]) no
      refine q _ o [deed] s2 ⟨[(a, deed)], ⟨upd_same, lv.nin (s1.free no)⟩, rfl, fun e he => ?_⟩ (fun d hd' => ?_) (by simp)
      · rw [List.mem_singleton.mp he]
        exact ⟨kept ea no, lv.nin na⟩
      · rw [List.mem_singleton.mp hd']
        rcases hd with z | z
        · rw [z] at n1; exact absurd rfl n1
        · exact z
    · have un : ∀ t, H1 t = none → 1 ≤ sizeLine ∧ ∀ o, (upd H1 t (.tup [.str "undo"])) o = none → Q (.ref o) (upd (upd H1 t (.tup [.str "undo"])) o (.lst [.ref t])) := fun t nt => ⟨sz (by omega), fun o no => by
        have s2 := s1.new (o := HO.tup [.str "undo"]) nt
        have s3 := s2.new (o := HO.lst [.ref t]) no
        refine q _ o [.undo] s3 ⟨[(t, .undo)], ⟨upd_same, lv.nin (s2.free no)⟩, rfl, fun e he => ?_⟩ (fun d hd' => ?_) (by simp)
        · rw [List.mem_singleton.mp he]
          exact ⟨kept upd_same no, lv.nin (s1.free nt)⟩
        · rw [List.mem_singleton.mp hd']; exact trivial⟩
      have un' : (0 + 1 ≤ sizeLine ∧ ∀ t, H1 t = none → 1 ≤ sizeLine ∧ ∀ o, (upd H1 t (.tup [.str "undo"])) o = none → Q (.ref o) (upd (upd H1 t (.tup [.str "undo"])) o (.lst [.ref t]))) := ⟨sz (by omega), un⟩
      refine ⟨_, rfl, b, rfl, ?_⟩
      cases b with
      | true => exact iteT (iteT un')
      | false =>
      refine iteF ?_
      refine ⟨_, rfl, _, _, rfl, rfl, _, rfl, ?_⟩
      by_cases h1 : (n : Int) > 117
      · rw [decide_eq_true h1]; exact iteT (iteT un')
      rw [decide_eq_false h1]
      refine iteF ?_
      refine ⟨_, rfl, _, _, rfl, rfl, _, rfl, tst (c := wd > 99) rfl (fun _ => un') (fun _ => ?_)⟩
      refine ⟨_, rfl, _, _, rfl, rfl, ((119 - n : Nat) : Int), ?_, by omega, by omega, fun D hD => ?_⟩
      · exact (congrArg (fun z => [V.int z]) (show (119 : Int) - (n : Int) = ((119 - n : Nat) : Int) by omega))
      rw [Int.toNat_natCast]
      have hD0 := s1.free hD
      refine lc_range (lo := 0) (n := 119 - n) (fun i H' => Same H1 H' ∧ ∃ L : List (Addr × Deed), H' D = some (.lst (L.map fun e => V.ref e.1)) ∧ L.length = i ∧ ∀ e ∈ L, Fz Mu H' e.1 (.tup e.2.vals) ∧ e.1 ≠ D ∧ e.2.ok) ?_ ?_ ?_
      · exact ⟨(Same.refl _).new hD, [], upd_same, rfl, fun _ z => nomatch z⟩
      · rintro i H' hi ⟨s2, L, eD, hl, hL⟩
        refine ⟨rfl, ?_⟩
        refine ⟨_, rfl, _, rfl, _, _, rfl, rfl, _, rfl, ?_⟩
        have hs := sign_in (c + (0 + (i : Int)))
        generalize sign (c + (0 + (i : Int))) = x at hs ⊢
        refine ⟨sz (by simp), fun t nt => ?_⟩
        have s3 := s2.new (o := HO.tup [V.str (Str.ofString "put"), V.int 0, vt [x]]) nt
        have eD3 := kept eD nt (o := HO.tup [V.str (Str.ofString "put"), V.int 0, vt [x]])
        have et3 : (upd H' t (HO.tup [V.str (Str.ofString "put"), V.int 0, vt [x]])) t = some (.tup [V.str (Str.ofString "put"), V.int 0, vt [x]]) := upd_same
        have tD : t ≠ D := fun z => by rw [z, eD] at nt; cases nt
        have tMu : t ∉ Mu := lv.nin (s1.free (s2.free nt))
        have sH := (Same.refl H').new (o := HO.tup [V.str (Str.ofString "put"), V.int 0, vt [x]]) nt
        generalize upd H' t (HO.tup [V.str (Str.ofString "put"), V.int 0, vt [x]]) = H3 at s3 eD3 et3 sH ⊢
        refine ⟨_, eD3, by rw [List.length_map]; exact szl (by omega), s3.put hD, L ++ [(t, .put 0 [x])], by rw [upd_same, List.map_append]; rfl, by simp [hl], fun e he => ?_⟩
        rcases List.mem_append.mp he with z | z
        · obtain ⟨h1, h2, h3⟩ := hL e z
          exact ⟨⟨by rw [upd_ne h2]; exact sH _ _ h1.1, h1.2⟩, h2, h3⟩
        · rw [List.mem_singleton.mp z]
          refine ⟨⟨by rw [upd_ne tD]; exact et3, tMu⟩, tD, fun y hy => by rw [List.mem_singleton.mp hy]; omega, by simp⟩
      · rintro H' ⟨s2, L, eD, hl, hL⟩
        exact q H' D (L.map (·.2)) (s1.trans s2) ⟨L, ⟨eD, lv.nin hD0⟩, rfl, fun e he => (hL e he).1⟩ (fun d hd => by
          obtain ⟨e, he, rfl⟩ := List.mem_map.mp hd
          exact (hL e he).2.2) (by rw [List.length_map]; omega)

def sp__law_answered : Sp := fun vs H Q _ => ∃ (v : V) (r d : Addr) (m : Mo) (deed : Deed), vs = [v, .ref r, .ref d, .int (due m deed : Nat)] ∧ H r = some (.lst (vts m.st.1)) ∧ H d = some (.tup deed.vals) ∧ deed.ok ∧
  v = (if due m deed = 0 then ans m deed else .int (due m deed : Nat)) ∧ Q (.bl true) H
theorem ok__law_answered (A : At K mg "_law_answered" ["_law_found", "_law_row", "_law_deed", "_law_due_here"] st__law_answered) (T : Bts mg) (G__law_whole : Ok P w K mg base CX0 1 "_law_whole" ["_law_found"] sp__law_whole) : Ok P w K mg base CX0 2 "_law_answered" ["_law_found", "_law_row", "_law_deed", "_law_due_here"] sp__law_answered := by
  refine A.ok sc__law_answered (fun vs H Q E h => ?_) (fun f cdv A outer s H vs Q E hr h => ?_)
  · obtain ⟨v, r, d, m, deed, rfl, _⟩ := h; rfl
  · obtain ⟨v, r, d, m, deed, rfl, er, ed, ok, ev, q⟩ := h
    refine ⟨_, (pss_cons (ps_if (pt_cmpR op_ne (pv 3) pe_int (nomark _)) (pss_one (ps_ret (pe_and (pe_cd G__law_whole (hr.mono (by decide)) pass0 (pa_cons (pv 0) pa_nil)) (pe_one (pe_cmpR op_eq (pv 0) (pv 3) (nomark _)))))) pss_nil)
      (pss_cons (ps_if (pt_cmpR op_eq (pe_ix (ix_tupK K) (pv 2) pe_int (fun _ _ => rfl)) pe_str (nomark _)) (pss_one (ps_ret (pe_and (pe_callB call_isi (by rfl) T.m_isinstance (by decide +kernel) (pa_cons (pv 0) (pa_cons (pe_bltn (v := .ty "str") (u := .type "str") (by rfl) T.m_str (by decide +kernel) rfl) pa_nil))) (pe_one (pe_cmpR op_eq (pv 0) (pe_ix (ix_listK K) (pv 1) (pe_ix (ix_tupK K) (pv 2) pe_int (fun _ _ => rfl)) (fun _ _ => rfl)) (nomark _)))))) pss_nil)
      (pss_one (ps_ret (pe_cmpR op_isN (pv 0) pe_non (nomark _)))))), ?_⟩
    refine ⟨_, rfl, rfl, _, rfl, tsn (c := due m deed = 0) (by rw [dec_vi]; simp) (fun n1 => ?_) (fun n1 => ?_)⟩
    · rw [if_neg n1] at ev
      subst ev
      refine ⟨_, rfl, _, rfl, _, rfl, iteT ⟨_, rfl, _, rfl, rfl, ?_⟩⟩
      rw [dec_vi, decide_eq_true rfl]
      exact q
    · rw [if_pos n1] at ev
      cases deed with
      | put i x =>
        refine ⟨_, rfl, d, _, ((0 : Nat) : Int), _, rfl, rfl, .of ed, rfl, rfl, _, rfl, tst (c := ("put" : Str) = "drop") (nmE _ _) (fun z => absurd z nPD) (fun _ => ?_)⟩
        subst ev
        refine ⟨_, rfl, rfl, ?_⟩
        show Q (.bl (decide (V.non = V.non))) H
        rw [decide_eq_true rfl]; exact q
      | widen i =>
        refine ⟨_, rfl, d, _, ((0 : Nat) : Int), _, rfl, rfl, .of ed, rfl, rfl, _, rfl, tst (c := ("widen" : Str) = "drop") (nmE _ _) (fun z => absurd z nWD) (fun _ => ?_)⟩
        subst ev
        refine ⟨_, rfl, rfl, ?_⟩
        show Q (.bl (decide (V.non = V.non))) H
        rw [decide_eq_true rfl]; exact q
      | undo =>
        refine ⟨_, rfl, d, _, ((0 : Nat) : Int), _, rfl, rfl, .of ed, rfl, rfl, _, rfl, tst (c := ("undo" : Str) = "drop") (nmE _ _) (fun z => absurd z nUD) (fun _ => ?_)⟩
        subst ev
        refine ⟨_, rfl, rfl, ?_⟩
        show Q (.bl (decide (V.non = V.non))) H
        rw [decide_eq_true rfl]; exact q
      | fill => exact ok.elim
      | drop i =>
        obtain ⟨h1, h2⟩ := due_drop n1
        obtain ⟨j, rfl⟩ : ∃ j : Nat, i = (j : Int) := ⟨i.toNat, by omega⟩
        have hj : j < m.st.1.length := by omega
        have ev' : v = vt m.st.1[j] := by
          rw [ev]
          show vt (m.st.1.getD ((j : Int)).toNat []) = _
          rw [Int.toNat_natCast, List.getD_eq_getElem?_getD, List.getElem?_eq_getElem hj]; rfl
        clear ev
        subst ev'
        refine ⟨_, rfl, d, _, ((0 : Nat) : Int), _, rfl, rfl, .of ed, rfl, rfl, _, rfl, tst (c := ("drop" : Str) = "drop") (nmE _ _) (fun _ => ?_) (fun z => absurd rfl z)⟩
        refine ⟨_, rfl, _, .ty "str", _, _, true, rfl, .ty "str", .base (.str _), kit_ty (by decide +kernel), true, rfl, iteT ?_⟩
        refine ⟨_, rfl, _, rfl, _, rfl, d, _, ((1 : Nat) : Int), _, rfl, rfl, .of ed, rfl, r, _, _, _, rfl, rfl, .of er, atI_nat (flat_get (List.getElem?_eq_getElem hj)), rfl, ?_⟩
        rw [decide_eq_true rfl]
        exact q

def sp__law_after (K : PySem.W.Frag) : Sp := fun vs H Q _ => ∃ (Mu : List Addr) (r q d : Addr) (m : Mo) (deed : Deed) (L : List NE3), vs = [.ref r, .int m.st.2, .ref q, .ref d] ∧ Live Mu H ∧ m.ok ∧ m.past.length < 100000 ∧
  Fz Mu H r (.lst (vts m.st.1)) ∧ Fz Mu H q (.lst (L.map fun e => V.ref e.1)) ∧ m.past = L.map (fun e => e.2.2) ∧ (∀ e ∈ L, Fz Mu H e.1 (.tup [.ref e.2.1, .int e.2.2.2]) ∧ Fz Mu H e.2.1 (.lst (vts e.2.2.1))) ∧
  H d = some (.tup deed.vals) ∧ deed.ok ∧ due m deed = 0 ∧ ∀ H' a, Same H H' → NowAt Mu H' a (aft m deed) → Q (.ref a) H'
theorem ok__law_after (A : At K mg "_law_after" ["_law_row", "_law_width", "_law_past", "_law_deed"] st__law_after) (T : Bts mg) : Ok P w K mg base CX0 1 "_law_after" ["_law_row", "_law_width", "_law_past", "_law_deed"] (sp__law_after K) := by
  refine A.ok sc__law_after (fun vs H Q E h => ?_) (fun f cdv A outer s H vs Q E hr h => ?_)
  · obtain ⟨Mu, r, q, d, m, deed, L, rfl, _⟩ := h; rfl
  · obtain ⟨Mu, r, q, d, m, deed, L, rfl, lv, mok, hl, fr, fq, eL, hL, ed, ok, h0, k⟩ := h
    refine ⟨_, (pss_cons (ps_if (pt_cmpR op_eq (pe_ix (ix_tupK K) (pv 3) pe_int (fun _ _ => rfl)) pe_str (nomark _)) (pss_one (ps_ret (pe_tup (pa_cons (pe_ix (ix_tupK K) (pe_ix (ix_listK K) (pv 2) (pe_un un_neg pe_int) (fun _ _ => rfl)) pe_int (fun _ _ => rfl)) (pa_cons (pe_ix (ix_tupK K) (pe_ix (ix_listK K) (pv 2) (pe_un un_neg pe_int) (fun _ _ => rfl)) pe_int (fun _ _ => rfl)) (pa_cons (pe_slice (sl_listK K) (pv 2) po_none (po_some (pe_un un_neg pe_int))) pa_nil)))))) pss_nil)
      (pss_cons (ps_set (i := 2) sc__law_after.nd rfl (Or.inl rfl) (pe_op op_cat (pv 2) (pe_lst (pa_cons (pe_tup (pa_cons (pv 0) (pa_cons (pv 1) pa_nil))) pa_nil))))
      (pss_cons (ps_if (pt_cmpR op_eq (pe_ix (ix_tupK K) (pv 3) pe_int (fun _ _ => rfl)) pe_str (nomark _)) (pss_one (ps_ret (pe_tup (pa_cons (pe_op op_cat (pe_op op_cat (pe_slice (sl_listK K) (pv 0) po_none (po_some (pe_ix (ix_tupK K) (pv 3) pe_int (fun _ _ => rfl)))) (pe_lst (pa_cons (pe_ix (ix_tupK K) (pv 3) pe_int (fun _ _ => rfl)) pa_nil))) (pe_slice (sl_listK K) (pv 0) (po_some (pe_ix (ix_tupK K) (pv 3) pe_int (fun _ _ => rfl))) po_none)) (pa_cons (pv 1) (pa_cons (pv 2) pa_nil)))))) pss_nil)
      (pss_cons (ps_if (pt_cmpR op_eq (pe_ix (ix_tupK K) (pv 3) pe_int (fun _ _ => rfl)) pe_str (nomark _)) (pss_one (ps_ret (pe_tup (pa_cons (pe_op op_cat (pe_slice (sl_listK K) (pv 0) po_none (po_some (pe_ix (ix_tupK K) (pv 3) pe_int (fun _ _ => rfl)))) (pe_slice (sl_listK K) (pv 0) (po_some (pe_op op_add (pe_ix (ix_tupK K) (pv 3) pe_int (fun _ _ => rfl)) pe_int)) po_none)) (pa_cons (pv 1) (pa_cons (pv 2) pa_nil)))))) pss_nil)
      (pss_one (ps_ret (pe_tup (pa_cons (pv 0) (pa_cons (pe_ix (ix_tupK K) (pv 3) pe_int (fun _ _ => rfl)) (pa_cons (pv 2) pa_nil)))))))))), ?_⟩
    have hLl : L.length = m.past.length := by rw [eL, List.length_map]
    by_cases hu : deed = .undo
    · subst hu
      have hp := due_undo h0
      obtain ⟨L', e, rfl⟩ : ∃ L' e, L = L' ++ [e] := by
        rcases List.eq_nil_or_concat L with z | ⟨L', e, z⟩
        · rw [z] at eL; exact absurd eL hp
        · exact ⟨L', e, by rw [z, List.concat_eq_append]⟩
      have he := hL e (by simp)
      have fq1 := fq.1
      rw [List.map_append] at fq1
      refine ⟨_, rfl, d, _, ((0 : Nat) : Int), _, rfl, rfl, .of ed, rfl, rfl, _, rfl, tst (c := ("undo" : Str) = "undo") (nmE _ _) (fun _ => ?_) (fun z => absurd rfl z)⟩
      refine ⟨_, rfl, _, rfl, q, _, _, _, rfl, rfl, .of fq1, last_at _ _, e.1, _, ((0 : Nat) : Int), _, rfl, rfl, .of he.1.1, rfl, ?_⟩
      refine ⟨_, rfl, _, rfl, q, _, _, _, rfl, rfl, .of fq1, last_at _ _, e.1, _, ((1 : Nat) : Int), _, rfl, rfl, .of he.1.1, rfl, ?_⟩
      refine ⟨_, rfl, _, rfl, _, rfl, q, _, rfl, .of fq1, fun b nb => ?_⟩
      refine ⟨sz (by simp), fun o no => ?_⟩
      rw [show cutV (L'.map (fun e => V.ref e.1) ++ [e].map (fun e => V.ref e.1)) none (some (-1)) = L'.map (fun e => V.ref e.1) from cut_last _ _] at no ⊢
      have s1 := (Same.refl H).new (o := HO.lst (L'.map fun e => V.ref e.1)) nb
      have s2 := s1.new (o := HO.tup [.ref e.2.1, .int e.2.2.2, .ref b]) no
      have em : aft m .undo = ⟨e.2.2, L'.map fun e => e.2.2⟩ := by
        show (⟨m.past.getLast?.getD m.st, m.past.dropLast⟩ : Mo) = _
        rw [eL, List.map_append, List.map_singleton, List.dropLast_concat, List.getLast?_concat]; rfl
      refine k _ o s2 ?_
      rw [em]
      exact ⟨e.2.1, b, ⟨upd_same, lv.nin (s1.free no)⟩, he.2.same s2, L', ⟨kept upd_same no, lv.nin nb⟩, rfl, fun y hy => ⟨(hL y (by simp [hy])).1.same s2, (hL y (by simp [hy])).2.same s2⟩⟩
    · refine ⟨_, rfl, d, _, ((0 : Nat) : Int), _, rfl, rfl, .of ed, Deed.at0 deed, rfl, _, rfl, tst (c := deed.nm = "undo") (nmE _ _) (fun z => ?_) (fun _ => ?_)⟩
      · cases deed with
        | put i x => exact absurd z nPU
        | drop i => exact absurd z nDU
        | widen i => exact absurd z nWU
        | undo => exact absurd rfl hu
        | fill => exact ok.elim
      refine ⟨_, rfl, _, rfl, _, rfl, sz (by simp), fun a na => ⟨sz (by simp), fun b nb => ?_⟩⟩
      have s1 := (Same.refl H).new (o := HO.tup [.ref r, .int m.st.2]) na
      have ea1 : (upd H a (HO.tup [.ref r, .int m.st.2])) a = some (.tup [.ref r, .int m.st.2]) := upd_same
      generalize upd H a (HO.tup [.ref r, .int m.st.2]) = H1 at s1 ea1 nb ⊢
      have s2 := s1.new (o := HO.lst [.ref a]) nb
      have ea2 := kept ea1 nb (o := HO.lst [.ref a])
      have eb2 : (upd H1 b (HO.lst [.ref a])) b = some (.lst [.ref a]) := upd_same
      generalize upd H1 b (HO.lst [.ref a]) = H2 at s2 ea2 eb2 ⊢
      refine ⟨q, b, _, _, rfl, rfl, s2 _ _ fq.1, eb2, sz (by rw [List.length_map, hLl]; simp; omega), fun c nc => ?_⟩
      have eq3 : L.map (fun e => V.ref e.1) ++ [.ref a] = (L ++ [((a, r, m.st) : NE3)]).map (fun e => V.ref e.1) := by rw [List.map_append]; rfl
      rw [eq3]
      have s3 := s2.new (o := HO.lst ((L ++ [((a, r, m.st) : NE3)]).map (fun e => V.ref e.1))) nc
      have ea3 := kept ea2 nc (o := HO.lst ((L ++ [((a, r, m.st) : NE3)]).map (fun e => V.ref e.1)))
      have ec3 : (upd H2 c (HO.lst ((L ++ [((a, r, m.st) : NE3)]).map (fun e => V.ref e.1)))) c = some (.lst ((L ++ [((a, r, m.st) : NE3)]).map (fun e => V.ref e.1))) := upd_same
      have nc0 := s2.free nc
      generalize upd H2 c (HO.lst ((L ++ [((a, r, m.st) : NE3)]).map (fun e => V.ref e.1))) = H3 at s3 ea3 ec3 ⊢
      have hb := mok.st.bw
      have hle := mok.st.le
      have pst : m.past ++ [m.st] = (L ++ [((a, r, m.st) : NE3)]).map (fun e => e.2.2) := by rw [List.map_append, eL]; rfl
      have ents : ∀ {H'}, Same H3 H' → ∀ e ∈ L ++ [((a, r, m.st) : NE3)], Fz Mu H' e.1 (.tup [.ref e.2.1, .int e.2.2.2]) ∧ Fz Mu H' e.2.1 (.lst (vts e.2.2.1)) := fun {H'} t e he => by
        rcases List.mem_append.mp he with z | z
        · exact ⟨(hL e z).1.same (s3.trans t), (hL e z).2.same (s3.trans t)⟩
        · rw [List.mem_singleton.mp z]
          exact ⟨⟨t _ _ ea3, lv.nin na⟩, fr.same (s3.trans t)⟩
      cases deed with
      | put i x =>
        obtain ⟨⟨g1, g2⟩, g3, g4, g5⟩ := due_put h0
        obtain ⟨j, rfl⟩ : ∃ j : Nat, i = (j : Int) := ⟨i.toNat, by omega⟩
        refine ⟨_, rfl, d, _, ((0 : Nat) : Int), _, rfl, rfl, .of (s3 _ _ ed), rfl, rfl, _, rfl, tst (c := ("put" : Str) = "put") (nmE _ _) (fun _ => ?_) (fun z => absurd rfl z)⟩
        refine ⟨_, rfl, _, rfl, d, _, ((1 : Nat) : Int), _, rfl, rfl, .of (s3 _ _ ed), rfl, ((j : Nat) : Int), rfl, r, _, rfl, .of (s3 _ _ fr.1), fun v nv => ?_⟩
        rw [show cutV (vts m.st.1) none (some (j : Int)) = vts (m.st.1.take j) from cut_to vt _ j]
        have t4 := (Same.refl H3).new (o := HO.lst (vts (m.st.1.take j))) nv
        have ev4 : (upd H3 v (HO.lst (vts (m.st.1.take j)))) v = some (.lst (vts (m.st.1.take j))) := upd_same
        generalize upd H3 v (HO.lst (vts (m.st.1.take j))) = H4 at t4 ev4 ⊢
        refine ⟨_, rfl, d, _, ((2 : Nat) : Int), _, rfl, rfl, .of (t4 _ _ (s3 _ _ ed)), rfl, sz (by simp), fun g ng => ?_⟩
        have t5 := t4.new (o := HO.lst [vt x]) ng
        have ev5 := kept ev4 ng (o := HO.lst [vt x])
        have eg5 : (upd H4 g (HO.lst [vt x])) g = some (.lst (vts [x])) := upd_same
        generalize upd H4 g (HO.lst [vt x]) = H5 at t5 ev5 eg5 ⊢
        refine ⟨v, g, _, _, rfl, rfl, ev5, eg5, sz (by rw [List.length_map, List.length_map, List.length_take, List.length_singleton]; omega), fun u nu => ?_⟩
        rw [show vts (m.st.1.take j) ++ vts [x] = vts (m.st.1.take j ++ [x]) from List.map_append.symm]
        have t6 := t5.new (o := HO.lst (vts (m.st.1.take j ++ [x]))) nu
        have eu6 : (upd H5 u (HO.lst (vts (m.st.1.take j ++ [x])))) u = some (.lst (vts (m.st.1.take j ++ [x]))) := upd_same
        generalize upd H5 u (HO.lst (vts (m.st.1.take j ++ [x]))) = H6 at t6 eu6 ⊢
        refine ⟨_, rfl, _, rfl, d, _, ((1 : Nat) : Int), _, rfl, rfl, .of (t6 _ _ (s3 _ _ ed)), rfl, ((j : Nat) : Int), rfl, r, _, rfl, .of (t6 _ _ (s3 _ _ fr.1)), fun y ny => ?_⟩
        rw [show cutV (vts m.st.1) (some (j : Int)) none = vts (m.st.1.drop j) from cut_from vt _ j]
        have t7 := t6.new (o := HO.lst (vts (m.st.1.drop j))) ny
        have eu7 := kept eu6 ny (o := HO.lst (vts (m.st.1.drop j)))
        have ey7 : (upd H6 y (HO.lst (vts (m.st.1.drop j)))) y = some (.lst (vts (m.st.1.drop j))) := upd_same
        generalize upd H6 y (HO.lst (vts (m.st.1.drop j))) = H7 at t7 eu7 ey7 ⊢
        refine ⟨u, y, _, _, rfl, rfl, eu7, ey7, sz (by rw [List.length_map, List.length_map, List.length_append, List.length_take, List.length_drop, List.length_singleton]; omega), fun r' nr' => ?_⟩
        rw [show vts (m.st.1.take j ++ [x]) ++ vts (m.st.1.drop j) = vts (putAt m.st.1 j x) from List.map_append.symm]
        have t8 := t7.new (o := HO.lst (vts (putAt m.st.1 j x))) nr'
        have er8 : (upd H7 r' (HO.lst (vts (putAt m.st.1 j x)))) r' = some (.lst (vts (putAt m.st.1 j x))) := upd_same
        have nr0 := s3.free (t7.free nr')
        generalize upd H7 r' (HO.lst (vts (putAt m.st.1 j x))) = H8 at t8 er8 ⊢
        refine ⟨_, rfl, _, rfl, sz (by simp), fun o no => ?_⟩
        have t9 := t8.new (o := HO.tup [.ref r', .int m.st.2, .ref c]) no
        refine k _ o (s3.trans t9) ⟨r', c, ⟨upd_same, lv.nin (s3.free (t8.free no))⟩, ⟨kept er8 no, lv.nin nr0⟩, L ++ [((a, r, m.st) : NE3)], ⟨t9 _ _ ec3, lv.nin nc0⟩, pst, ents t9⟩
      | drop i =>
        obtain ⟨g1, g2⟩ := due_drop h0
        obtain ⟨j, rfl⟩ : ∃ j : Nat, i = (j : Int) := ⟨i.toNat, by omega⟩
        refine ⟨_, rfl, d, _, ((0 : Nat) : Int), _, rfl, rfl, .of (s3 _ _ ed), rfl, rfl, _, rfl, tst (c := ("drop" : Str) = "put") (nmE _ _) (fun z => absurd z nDP) (fun _ => ?_)⟩
        refine ⟨_, rfl, d, _, ((0 : Nat) : Int), _, rfl, rfl, .of (s3 _ _ ed), rfl, rfl, _, rfl, tst (c := ("drop" : Str) = "drop") (nmE _ _) (fun _ => ?_) (fun z => absurd rfl z)⟩
        refine ⟨_, rfl, _, rfl, d, _, ((1 : Nat) : Int), _, rfl, rfl, .of (s3 _ _ ed), rfl, ((j : Nat) : Int), rfl, r, _, rfl, .of (s3 _ _ fr.1), fun v nv => ?_⟩
        rw [show cutV (vts m.st.1) none (some (j : Int)) = vts (m.st.1.take j) from cut_to vt _ j]
        have t4 := (Same.refl H3).new (o := HO.lst (vts (m.st.1.take j))) nv
        have ev4 : (upd H3 v (HO.lst (vts (m.st.1.take j)))) v = some (.lst (vts (m.st.1.take j))) := upd_same
        generalize upd H3 v (HO.lst (vts (m.st.1.take j))) = H4 at t4 ev4 ⊢
        refine ⟨_, rfl, _, rfl, d, _, ((1 : Nat) : Int), _, rfl, rfl, .of (t4 _ _ (s3 _ _ ed)), rfl, _, _, rfl, rfl, ((j + 1 : Nat) : Int), rfl, r, _, rfl, .of (t4 _ _ (s3 _ _ fr.1)), fun y ny => ?_⟩
        rw [show cutV (vts m.st.1) (some ((j + 1 : Nat) : Int)) none = vts (m.st.1.drop (j + 1)) from cut_from vt _ (j + 1)]
        have t7 := t4.new (o := HO.lst (vts (m.st.1.drop (j + 1)))) ny
        have ev7 := kept ev4 ny (o := HO.lst (vts (m.st.1.drop (j + 1))))
        have ey7 : (upd H4 y (HO.lst (vts (m.st.1.drop (j + 1))))) y = some (.lst (vts (m.st.1.drop (j + 1)))) := upd_same
        generalize upd H4 y (HO.lst (vts (m.st.1.drop (j + 1)))) = H7 at t7 ev7 ey7 ⊢
        refine ⟨v, y, _, _, rfl, rfl, ev7, ey7, sz (by rw [List.length_map, List.length_map, List.length_take, List.length_drop]; omega), fun r' nr' => ?_⟩
        rw [show vts (m.st.1.take j) ++ vts (m.st.1.drop (j + 1)) = vts (dropAt m.st.1 j) from List.map_append.symm]
        have t8 := t7.new (o := HO.lst (vts (dropAt m.st.1 j))) nr'
        have er8 : (upd H7 r' (HO.lst (vts (dropAt m.st.1 j)))) r' = some (.lst (vts (dropAt m.st.1 j))) := upd_same
        have nr0 := s3.free (t7.free nr')
        generalize upd H7 r' (HO.lst (vts (dropAt m.st.1 j))) = H8 at t8 er8 ⊢
        refine ⟨_, rfl, _, rfl, sz (by simp), fun o no => ?_⟩
        have t9 := t8.new (o := HO.tup [.ref r', .int m.st.2, .ref c]) no
        refine k _ o (s3.trans t9) ⟨r', c, ⟨upd_same, lv.nin (s3.free (t8.free no))⟩, ⟨kept er8 no, lv.nin nr0⟩, L ++ [((a, r, m.st) : NE3)], ⟨t9 _ _ ec3, lv.nin nc0⟩, pst, ents t9⟩
      | widen i =>
        refine ⟨_, rfl, d, _, ((0 : Nat) : Int), _, rfl, rfl, .of (s3 _ _ ed), rfl, rfl, _, rfl, tst (c := ("widen" : Str) = "put") (nmE _ _) (fun z => absurd z nWP') (fun _ => ?_)⟩
        refine ⟨_, rfl, d, _, ((0 : Nat) : Int), _, rfl, rfl, .of (s3 _ _ ed), rfl, rfl, _, rfl, tst (c := ("widen" : Str) = "drop") (nmE _ _) (fun z => absurd z nWD) (fun _ => ?_)⟩
        refine ⟨_, rfl, _, rfl, d, _, ((1 : Nat) : Int), _, rfl, rfl, .of (s3 _ _ ed), rfl, _, rfl, sz (by simp), fun o no => ?_⟩
        have t9 := (Same.refl H3).new (o := HO.tup [.ref r, .int i, .ref c]) no
        refine k _ o (s3.trans t9) ⟨r, c, ⟨upd_same, lv.nin (s3.free no)⟩, fr.same (s3.trans t9), L ++ [((a, r, m.st) : NE3)], ⟨t9 _ _ ec3, lv.nin nc0⟩, pst, ents t9⟩
      | undo => exact absurd rfl hu
      | fill => exact ok.elim

def sp__law_step (C : Addr) : Sp := fun vs H Q _ => ∃ (Mu : List Addr) (p q now d : Addr) (m : Mo) (deed : Deed), vs = [.ref p, .ref now, .ref d] ∧ PgAt C Mu H p q m ∧ NowAt Mu H now m ∧ Fz Mu H d (.tup deed.vals) ∧ deed.ok ∧ m.past.length < 100000 ∧
  ∀ H' now', Kp [p, q] H H' → PgAt C Mu H' p q (nxt m deed) → NowAt Mu H' now' (nxt m deed) → Q (.ref now') H'
theorem ok__law_step {C : Addr} (A : At K mg "_law_step" ["_law_page", "_law_now", "_law_deed"] st__law_step) (T : Bts mg) (G__law_due : Ok P w K mg base CX0 2 "_law_due" ["_law_row", "_law_width", "_law_past", "_law_deed"] (sp__law_due K))
    (G__law_told : Ok P w K mg base CX0 6 "_law_told" ["_law_page", "_law_deed"] (sp__law_told C)) (G__law_answered : Ok P w K mg base CX0 2 "_law_answered" ["_law_found", "_law_row", "_law_deed", "_law_due_here"] sp__law_answered)
    (G__law_after : Ok P w K mg base CX0 1 "_law_after" ["_law_row", "_law_width", "_law_past", "_law_deed"] (sp__law_after K)) :
    Ok P w K mg base CX0 7 "_law_step" ["_law_page", "_law_now", "_law_deed"] (sp__law_step C) := by
  refine A.ok sc__law_step (fun vs H Q E h => ?_) (fun f cdv A outer s H vs Q E hr h => ?_)
  · obtain ⟨Mu, p, q, now, d, m, deed, rfl, _⟩ := h; rfl
  · obtain ⟨Mu, p, q, now, d, m, deed, rfl, pg, na, fd, ok, hl, k⟩ := h
    refine ⟨_, (pss_cons (ps_set (i := 3) sc__law_step.nd rfl (Or.inl rfl) (pe_cd G__law_due (hr.mono (by decide)) pass0 (pa_cons (pe_ix (ix_tupK K) (pv 1) pe_int (fun _ _ => rfl)) (pa_cons (pe_ix (ix_tupK K) (pv 1) pe_int (fun _ _ => rfl)) (pa_cons (pe_ix (ix_tupK K) (pv 1) pe_int (fun _ _ => rfl)) (pa_cons (pv 2) pa_nil))))))
      (pss_cons (ps_if (pt_not (pt_val (pe_cd G__law_answered (hr.mono (by decide)) pass0 (pa_cons (pe_cd G__law_told (hr.mono (by decide)) pass0 (pa_cons (pv 0) (pa_cons (pv 2) pa_nil))) (pa_cons (pe_ix (ix_tupK K) (pv 1) pe_int (fun _ _ => rfl)) (pa_cons (pv 2) (pa_cons (pv 3) pa_nil))))))) (pss_one (ps_ret pe_non)) pss_nil)
      (pss_cons (ps_if (pt_cmpR op_eq (pv 3) pe_int (nomark _)) (pss_one (ps_ret (pe_cd G__law_after (hr.mono (by decide)) pass0 (pa_cons (pe_ix (ix_tupK K) (pv 1) pe_int (fun _ _ => rfl)) (pa_cons (pe_ix (ix_tupK K) (pv 1) pe_int (fun _ _ => rfl)) (pa_cons (pe_ix (ix_tupK K) (pv 1) pe_int (fun _ _ => rfl)) (pa_cons (pv 2) pa_nil))))))) pss_nil)
      (pss_one (ps_ret (pv 1)))))), ?_⟩
    obtain ⟨r, z, en, er, L, ez, eL, hL⟩ := na.ex
    have mok := pg.ok
    have hLl : (L.map fun e => V.ref e.1).length = m.past.length := by rw [eL, List.length_map, List.length_map]
    refine ⟨_, rfl, now, _, ((0 : Nat) : Int), _, rfl, rfl, .of en.1, rfl, _, rfl, now, _, ((1 : Nat) : Int), _, rfl, rfl, .of en.1, rfl, _, rfl, now, _, ((2 : Nat) : Int), _, rfl, rfl, .of en.1, rfl, _, rfl, ?_⟩
    refine ⟨r, z, d, m, deed, _, rfl, er.1, ez.1, hLl, fd.1, mok.st.bw, ok, fun H1 s1 => ?_⟩
    refine ⟨_, rfl, _, rfl, Mu, p, q, d, m, deed, rfl, pg.same s1, fd.same s1, ok, hl, fun H2 k2 pg2 => ?_⟩
    have k12 : Kp [p, q] H H2 := (Kp.of s1).trans k2
    have sub := pg.sub
    have en2 := en.keep k12 sub
    have er2 := er.keep k12 sub
    have ez2 := ez.keep k12 sub
    have fd2 := fd.keep k12 sub
    refine ⟨_, rfl, now, _, ((0 : Nat) : Int), _, rfl, rfl, .of en2.1, rfl, _, rfl, _, rfl, ?_⟩
    refine ⟨_, r, d, m, deed, rfl, er2.1, fd2.1, ok, rfl, true, rfl, iteF ?_⟩
    refine ⟨_, rfl, rfl, _, rfl, tst (c := due m deed = 0) (by rw [dec_vi]; simp) (fun h0 => ?_) (fun h0 => ?_)⟩
    · refine ⟨_, rfl, now, _, ((0 : Nat) : Int), _, rfl, rfl, .of en2.1, rfl, _, rfl, now, _, ((1 : Nat) : Int), _, rfl, rfl, .of en2.1, rfl, _, rfl, now, _, ((2 : Nat) : Int), _, rfl, rfl, .of en2.1, rfl, _, rfl, ?_⟩
      have lv2 : Live Mu H2 := pg2.live
      refine ⟨Mu, r, z, d, m, deed, L, rfl, lv2, mok, hl, er2, ez2, eL, fun e he => ⟨(hL e he).1.keep k12 sub, (hL e he).2.keep k12 sub⟩, fd2.1, ok, h0, fun H3 a s3 na3 => ?_⟩
      have en3 : nxt m deed = aft m deed := by unfold nxt; rw [if_pos h0]
      rw [en3] at k pg2
      exact k H3 a (k12.trans (Kp.of s3)) (pg2.same s3) na3
    · have en3 : nxt m deed = m := by unfold nxt; rw [if_neg h0]
      rw [en3] at k pg2
      exact ⟨_, rfl, k H2 now k12 pg2 (na.keep k12 sub)⟩

def sp__law_made_good : Sp := fun vs H Q _ => ∃ (Mu : List Addr) (k : Nat) (d : Addr) (deed : Deed), vs = [.int k, .ref d] ∧ Live Mu H ∧ Fz Mu H d (.tup deed.vals) ∧ deed.ok ∧
  ∀ H' a, Same H H' → H a = none → DsAt Mu H' a (good2 k deed) → Q (.ref a) H'
theorem ok__law_made_good (A : At K mg "_law_made_good" ["_law_due_here", "_law_deed"] st__law_made_good) (T : Bts mg) : Ok P w K mg base CX0 1 "_law_made_good" ["_law_due_here", "_law_deed"] sp__law_made_good := by
  refine A.ok sc__law_made_good (fun vs H Q E h => ?_) (fun f cdv A outer s H vs Q E hr h => ?_)
  · obtain ⟨Mu, k, d, deed, rfl, _⟩ := h; rfl
  · obtain ⟨Mu, k, d, deed, rfl, lv, ed, ok, q⟩ := h
    refine ⟨_, (pss_cons (ps_if (PW.pt (pw_and (pt_cmpR op_eq (pv 0) pe_int (nomark _)) (pw_and1 (pt_cmpR op_eq (pe_ix (ix_tupK K) (pv 1) pe_int (fun _ _ => rfl)) pe_str (nomark _))))) (pss_one (ps_ret (pe_lst (pa_cons (pe_tup (pa_cons pe_str (pa_cons (pe_callB call_len_str (by rfl) T.m_len PySem.boot_len (pa_cons (pe_ix (ix_tupK K) (pv 1) pe_int (fun _ _ => rfl)) pa_nil)) pa_nil))) (pa_cons (pv 1) pa_nil))))) pss_nil)
      (pss_cons (ps_if (pt_cmpR op_eq (pv 0) pe_int (nomark _)) (pss_one (ps_ret (pe_lst (pa_cons (pe_tup (pa_cons pe_str (pa_cons pe_int pa_nil))) (pa_cons (pv 1) pa_nil))))) pss_nil)
      (pss_cons (ps_if (pt_cmpR op_eq (pv 0) pe_int (nomark _)) (pss_one (ps_ret (pe_lst (pa_cons (pe_tup (pa_cons pe_str (pa_cons pe_int (pa_cons pe_str pa_nil)))) (pa_cons (pv 1) pa_nil))))) pss_nil)
      (pss_one (ps_ret (pe_lst pa_nil)))))), ?_⟩
    have two : ∀ (x : Deed) (a b : Addr), H a = none → (upd H a (.tup x.vals)) b = none → good2 k deed = [x, deed] → Q (.ref b) (upd (upd H a (.tup x.vals)) b (.lst [.ref a, .ref d])) := fun x a b na nb e => by
      have s1 := (Same.refl H).new (o := HO.tup x.vals) na
      have s2 := s1.new (o := HO.lst [.ref a, .ref d]) nb
      refine q _ b s2 (s1.free nb) ⟨[(a, x), (d, deed)], ⟨upd_same, lv.nin (s1.free nb)⟩, e, fun y hy => ?_⟩
      rcases List.mem_cons.mp hy with z | z
      · rw [z]; exact ⟨kept upd_same nb, lv.nin na⟩
      · rw [List.mem_singleton.mp z]; exact ed.same s2
    have none : ∀ b, H b = none → good2 k deed = [] → Q (.ref b) (upd H b (.lst [])) := fun b nb e => by
      have s1 := (Same.refl H).new (o := HO.lst []) nb
      exact q _ b s1 nb ⟨[], ⟨upd_same, lv.nin nb⟩, e, fun y hy => nomatch hy⟩
    have mk : ∀ (x : Deed), good2 k deed = [x, deed] → ∀ a, H a = Option.none → 2 ≤ sizeLine ∧ ∀ b, (upd H a (.tup x.vals)) b = Option.none → Q (.ref b) (upd (upd H a (.tup x.vals)) b (.lst [.ref a, .ref d])) :=
      fun x e a na => ⟨sz (by omega), fun b nb => two x a b na nb e⟩
    refine ⟨_, rfl, rfl, _, rfl, ?_⟩
    rw [dec_vi]
    by_cases k12 : (k : Int) = 12
    · rw [decide_eq_true k12]
      refine iteT ?_
      have e12 : k = 12 := by omega
      subst e12
      refine ⟨_, rfl, d, _, ((0 : Nat) : Int), _, rfl, rfl, .of ed.1, Deed.at0 deed, rfl, _, rfl, tst (c := deed.nm = "put") (nmE _ _) (fun z => ?_) (fun z => ?_)⟩
      · cases deed with
        | put i x =>
          have hx : x.length ≤ 400 := ok.2
          refine ⟨_, rfl, d, _, ((2 : Nat) : Int), _, rfl, rfl, .of ed.1, rfl, tx x, rfl, by rw [tx_len]; exact sz (by omega), sz (by simp), fun a na => ?_⟩
          rw [tx_len]
          exact ⟨_, rfl, mk (.widen (x.length : Nat)) rfl a na⟩
        | drop i => exact absurd z nDP
        | widen i => exact absurd z nWP'
        | undo => exact absurd z nUP
        | fill => exact ok.elim
      · refine ⟨_, rfl, rfl, _, rfl, tst (c := ((12 : Nat) : Int) = 19) dec_vi (fun z => by omega) (fun _ => ?_)⟩
        refine ⟨_, rfl, rfl, _, rfl, tst (c := ((12 : Nat) : Int) = 20) dec_vi (fun z => by omega) (fun _ => ?_)⟩
        refine ⟨sz (by simp), fun b nb => none b nb ?_⟩
        cases deed with
        | put i x => exact absurd rfl z
        | fill => exact ok.elim
        | _ => rfl
    · rw [decide_eq_false k12]
      refine iteF (iteF ?_)
      have k12' : k ≠ 12 := fun z => k12 (by omega)
      refine ⟨_, rfl, rfl, _, rfl, tst (c := (k : Int) = 19) dec_vi (fun z => ?_) (fun z => ?_)⟩
      · have e19 : k = 19 := by omega
        subst e19
        refine ⟨sz (by simp), fun a na => ⟨_, rfl, mk (.drop 0) ?_ a na⟩⟩
        cases deed with
        | fill => exact ok.elim
        | _ => rfl
      have k19' : k ≠ 19 := fun y => z (by omega)
      refine ⟨_, rfl, rfl, _, rfl, tst (c := (k : Int) = 20) dec_vi (fun z => ?_) (fun z => ?_)⟩
      · have e20 : k = 20 := by omega
        subst e20
        refine ⟨sz (by simp), fun a na => ?_⟩
        rw [show V.str (Str.ofString "a") = vt [97] by rw [show Str.ofString "a" = tx [97] by decide +kernel]]
        refine ⟨_, rfl, mk (.put 0 [97]) ?_ a na⟩
        cases deed with
        | fill => exact ok.elim
        | _ => rfl
      have k20' : k ≠ 20 := fun y => z (by omega)
      refine ⟨sz (by simp), fun b nb => none b nb ?_⟩
      cases deed with
      | fill => exact ok.elim
      | put i x => show (if k = 12 then _ else if k = 19 then _ else if k = 20 then _ else []) = []; rw [if_neg k12', if_neg k19', if_neg k20']
      | drop i => show (if k = 19 then _ else if k = 20 then _ else []) = []; rw [if_neg k19', if_neg k20']
      | widen i => show (if k = 19 then _ else if k = 20 then _ else []) = []; rw [if_neg k19', if_neg k20']
      | undo => show (if k = 19 then _ else if k = 20 then _ else []) = []; rw [if_neg k19', if_neg k20']

theorem Fz.growL {Mu ys : List Addr} {H H' : Hp} {a : Addr} {o : HO} (f : Fz Mu H a o) (n : ∀ y ∈ ys, H y = none) (s : Same H H') : Fz (ys ++ Mu) H' a o := ⟨s _ _ f.1, fun z => by
  rcases List.mem_append.mp z with z | z
  · have := n a z; rw [f.1] at this; cases this
  · exact f.2 z⟩
theorem PgAt.growL {C : Addr} {Mu ys : List Addr} {H H' : Hp} {p q : Addr} {m : Mo} (h : PgAt C Mu H p q m) (n : ∀ y ∈ ys, H y = none) (s : Same H H') (e : ∀ y ∈ ys, H' y ≠ none) : PgAt C (ys ++ Mu) H' p q m := by
  have rw' : ∀ {r t s}, RowAt Mu H r t s → RowAt (ys ++ Mu) H' r t s := fun {r t s'} f => ⟨f.r.growL n s, by obtain ⟨xs, g1, g2⟩ := f.t; exact ⟨xs, g1.growL n s, g2⟩⟩
  obtain ⟨dx, fs, r, t, e1, e2, e3⟩ := h.ex
  obtain ⟨M, f1, f2, f3⟩ := h.past
  refine ⟨h.ok, List.mem_append_right _ h.pm, List.mem_append_right _ h.qm, h.pq, fun b hb z => ?_, ⟨dx, fs, r, t, s _ _ e1, e2, rw' e3⟩, ⟨M, s _ _ f1, f2, fun e he => ⟨(f3 e he).a.growL n s, rw' (f3 e he).row⟩⟩⟩
  rcases List.mem_append.mp hb with y | y
  · exact e b y z
  · exact h.live b y (s.free z)
theorem NowAt.growL {Mu ys : List Addr} {H H' : Hp} {now : Addr} {m : Mo} (h : NowAt Mu H now m) (n : ∀ y ∈ ys, H y = none) (s : Same H H') : NowAt (ys ++ Mu) H' now m := by
  obtain ⟨r, q, h1, h2, M, h3, h4, h5⟩ := h.ex
  exact ⟨r, q, h1.growL n s, h2.growL n s, M, h3.growL n s, h4, fun e he => ⟨(h5 e he).1.growL n s, (h5 e he).2.growL n s⟩⟩
theorem HeldAt.growL {Mu ys : List Addr} {H H' : Hp} {h : Addr} {k : Nat} (a : HeldAt Mu H h k) (n : ∀ y ∈ ys, H y = none) (s : Same H H') : HeldAt (ys ++ Mu) H' h k := by
  obtain ⟨M, e, f, g⟩ := a.ex
  exact ⟨M, s _ _ e, f, fun x hx => ⟨(g x hx).1.growL n s, (g x hx).2.1.growL n s, (g x hx).2.2.1.growL n s, (g x hx).2.2.2⟩⟩
theorem HeldAt.live {Mu : List Addr} {H : Hp} {h : Addr} {k : Nat} (a : HeldAt Mu H h k) : Live [h] H := fun x hx z => by
  obtain ⟨M, e, _⟩ := a.ex
  rw [List.mem_singleton.mp hx, e] at z; cases z
theorem good2_ok {d : Deed} (h : d.ok) (k : Nat) : ∀ x ∈ good2 k d, x.ok := by
  have w1 : (Deed.put 0 [97]).ok := ⟨fun c hc => by rw [List.mem_singleton.mp hc]; decide, by decide⟩
  cases d with
  | put i y =>
    intro x hx
    simp only [good2] at hx
    split at hx
    · rcases List.mem_cons.mp hx with z | z
      · rw [z]
        have := h.2
        exact Wb.sm (by omega) (by omega)
      · rw [List.mem_singleton.mp z]; exact h
    split at hx
    · rcases List.mem_cons.mp hx with z | z
      · rw [z]; exact trivial
      · rw [List.mem_singleton.mp z]; exact h
    split at hx
    · rcases List.mem_cons.mp hx with z | z
      · rw [z]; exact w1
      · rw [List.mem_singleton.mp z]; exact h
    · cases hx
  | fill => exact h.elim
  | drop i =>
    intro x hx
    simp only [good2] at hx
    split at hx
    · rcases List.mem_cons.mp hx with z | z
      · rw [z]; exact trivial
      · rw [List.mem_singleton.mp z]; exact h
    split at hx
    · rcases List.mem_cons.mp hx with z | z
      · rw [z]; exact w1
      · rw [List.mem_singleton.mp z]; exact h
    · cases hx
  | widen i =>
    intro x hx
    simp only [good2] at hx
    split at hx
    · rcases List.mem_cons.mp hx with z | z
      · rw [z]; exact trivial
      · rw [List.mem_singleton.mp z]; exact h
    split at hx
    · rcases List.mem_cons.mp hx with z | z
      · rw [z]; exact w1
      · rw [List.mem_singleton.mp z]; exact h
    · cases hx
  | undo =>
    intro x hx
    simp only [good2] at hx
    split at hx
    · rcases List.mem_cons.mp hx with z | z
      · rw [z]; exact trivial
      · rw [List.mem_singleton.mp z]; exact h
    split at hx
    · rcases List.mem_cons.mp hx with z | z
      · rw [z]; exact w1
      · rw [List.mem_singleton.mp z]; exact h
    · cases hx
theorem good2_len (d : Deed) (k : Nat) : (good2 k d).length ≤ 2 := by
  cases d <;> (simp only [good2]; repeat (split; (try simp))) <;> simp
theorem lit_a' : PySem.Str.ofString "a" = tx [97] := by decide +kernel
/-- a word put that is not refused -/
theorem put_pg {C : Addr} {ea : EA} {Mu : List Addr} {H : Hp} {p q : Addr} {m : Mo} (pg : PgAt C Mu H p q m) {i : Int} {x : List Nat} (ok : plainTx x ∧ x.length ≤ 400) (hl : m.past.length < 100000) (h0 : due m (.put i x) = 0) {Q : VK} {E : XK}
    (done : ∀ H', Kp [p, q] H H' → PgAt C Mu H' p q (aft m (.put i x)) → Q .non H') : sp_Page_put ea C [.ref p, .int i, vt x] H Q E := by
  obtain ⟨dx, fs, r, t, e1, F, row⟩ := pg.ex
  obtain ⟨L, eq, eL, hL⟩ := pg.past
  obtain ⟨xs, ft, xl, tab⟩ := row.t
  have mok := pg.ok
  obtain ⟨g1, g2, g3, g4⟩ := due_put h0
  have rq : r ≠ q := fun z => row.r.2 (by rw [z]; exact pg.qm)
  have tq : t ≠ q := fun z => ft.2 (by rw [z]; exact pg.qm)
  have hLl : (L.map fun e => V.ref e.1).length < 1000000 := by
    have h1 : L.length = m.past.length := by rw [eL, List.length_map]
    rw [List.length_map]; omega
  refine ⟨p, dx, r, t, q, fs, m.st.2, i, x, m.st.1, xs, _, rfl, e1, F, row.r.1, ft.1, rq, tq, eq, hLl, pg.pq, mok.st.bw, mok.st.le, by have := mok.st.tot; omega, mok.st.wb, mok.st.ft, xl, tab, ok.1, by have := ok.2; omega,
    fun z => absurd g1 z, fun _ z => absurd g2 z, fun _ _ z => by omega, fun _ _ _ z => by omega, ?_⟩
  intro j hj ei hg h3 h4 H' fs' r' t' a xs' F' e1' eq' na ea' nr' er' nt' et' xl' tab' kk
  subst ei
  have k1 := kp2 kk
  have ao : (aft m (.put (j : Int) x)).ok := aft_ok mok ok h0 hl
  refine done H' k1 (pg.to (L' := L ++ [((a, r, t, m.st) : PE4)]) ao k1 e1' F' ⟨⟨er', pg.live.nin nr'⟩, xs', ⟨et', pg.live.nin nt'⟩, ?_, tab'⟩ (by rw [eq', List.map_append]; rfl) (by show m.past ++ [m.st] = _; rw [List.map_append, eL]; rfl) fun e he => ?_)
  · show xs'.length = (putAt m.st.1 ((j : Int)).toNat x).length + 1
    unfold putAt
    rw [Int.toNat_natCast, List.length_append, List.length_append, List.length_take, List.length_drop, List.length_singleton]; omega
  · rcases List.mem_append.mp he with z | z
    · exact (hL e z).keep k1 pg.sub
    · rw [List.mem_singleton.mp z]
      exact ⟨⟨ea', pg.live.nin na⟩, row.keep k1 pg.sub⟩
/-- [page.words_now(), page.table_now(), page.starts_now(), page.lines_now()] -/
theorem four_told {K : PySem.W.Frag} {C : Addr} {Mu : List Addr} {H : Hp} {p q : Addr} {m : Mo} {σ : L2.St} {Q : V → Hp → Prop} (pg : PgAt C Mu H p q m) (h2 : σ[2]? = some (some (.ref p)))
    (k : ∀ (H' : Hp) (u : Addr) (W : List Addr), Same H H' → H' u = some (.lst (W.map V.ref)) → u ∉ W → W.length = 4 → (∀ w ∈ W, H w = none ∧ ∃ xs, H' w = some (.lst xs) ∧ xs.length ≤ 200) → Q (.ref u) H') :
    tLst (tCons (tMeth C "words_now" (sp_Page_words_now K C) [] E0 (tVar 2) tNil) (tCons (tMeth C "table_now" (sp_Page_table_now K C) [] E0 (tVar 2) tNil)
      (tCons (tMeth C "starts_now" (sp_Page_starts_now K C) [] E0 (tVar 2) tNil) (tCons (tMeth C "lines_now" (sp_Page_lines_now K C) [] E0 (tVar 2) tNil) tNil)))) σ H Q := by
  obtain ⟨dx, fs, r, t, e1, F, row⟩ := pg.ex
  obtain ⟨xs, ft, xl, tab⟩ := row.t
  have mok := pg.ok
  have hle := mok.st.le
  have lk : ∀ m : Str, m ≠ ("width" : Str) → m ≠ ("row" : Str) → m ≠ ("table" : Str) → m ≠ ("past" : Str) → fs.lookup m = none := F.no
  refine ⟨_, h2, p, dx, fs, rfl, e1, lk _ (by decide +kernel) (by decide +kernel) (by decide +kernel) (by decide +kernel), p, dx, r, t, q, fs, m.st.2, m.st.1, rfl, e1, F, .of row.r.1, fun w1 n1 => ?_⟩
  have s1 := (Same.refl H).new (o := HO.lst (vts m.st.1)) n1
  have a1 : (upd H w1 (HO.lst (vts m.st.1))) w1 = some (.lst (vts m.st.1)) := upd_same
  generalize upd H w1 (HO.lst (vts m.st.1)) = H1 at s1 a1 ⊢
  refine ⟨_, h2, p, dx, fs, rfl, s1 _ _ e1, lk _ (by decide +kernel) (by decide +kernel) (by decide +kernel) (by decide +kernel), p, dx, r, t, q, fs, m.st.2, xs, rfl, s1 _ _ e1, F, .of (ft.same s1).1, fun w2 n2 => ?_⟩
  have s2 := s1.new (o := HO.lst (vis xs)) n2
  have a1 := kept a1 n2 (o := HO.lst (vis xs))
  have a2 : (upd H1 w2 (HO.lst (vis xs))) w2 = some (.lst (vis xs)) := upd_same
  have f2 := s1.free n2
  generalize upd H1 w2 (HO.lst (vis xs)) = H2 at s2 a1 a2 ⊢
  refine ⟨_, h2, p, dx, fs, rfl, s2 _ _ e1, lk _ (by decide +kernel) (by decide +kernel) (by decide +kernel) (by decide +kernel), p, dx, r, t, q, fs, m.st.2, m.st.1, xs, rfl, s2 _ _ e1, F, .of (row.r.same s2).1, .of (ft.same s2).1, mok.st.bw, mok.st.wb, mok.st.ft, xl, fun H3 w3 ks s23 n3 a3 b3 => ?_⟩
  have s3 := s2.trans s23
  have a1 := s23 _ _ a1
  have a2 := s23 _ _ a2
  have f3 := s2.free n3
  refine ⟨_, h2, p, dx, fs, rfl, s3 _ _ e1, lk _ (by decide +kernel) (by decide +kernel) (by decide +kernel) (by decide +kernel), p, dx, r, t, q, fs, m.st.2, m.st.1, xs, rfl, s3 _ _ e1, F, .of (row.r.same s3).1, .of (ft.same s3).1, mok.st.bw, mok.st.wb, mok.st.ft, xl, fun H4 w4 ks4 s34 n4 a4 b4 => ?_⟩
  have s4 := s3.trans s34
  have a1 := s34 _ _ a1
  have a2 := s34 _ _ a2
  have a3 := s34 _ _ a3
  have f4 := s3.free n4
  have l3 := b3.fc.ch.len
  have l4 := b4.fc.ch.len
  refine ⟨sz (by simp), fun u nu => ?_⟩
  refine k _ u [w1, w2, w3, w4] (s4.new nu) upd_same (fun z => ?_) rfl (fun w hw => ?_)
  · rcases List.mem_cons.mp z with z | z
    · rw [z, a1] at nu; cases nu
    rcases List.mem_cons.mp z with z | z
    · rw [z, a2] at nu; cases nu
    rcases List.mem_cons.mp z with z | z
    · rw [z, a3] at nu; cases nu
    · rw [List.mem_singleton.mp z, a4] at nu; cases nu
  · rcases List.mem_cons.mp hw with z | z
    · rw [z]; exact ⟨n1, _, kept a1 nu, by rw [List.length_map]; omega⟩
    rcases List.mem_cons.mp z with z | z
    · rw [z]; exact ⟨f2, _, kept a2 nu, by rw [List.length_map]; omega⟩
    rcases List.mem_cons.mp z with z | z
    · rw [z]; exact ⟨f3, _, kept a3 nu, by rw [List.length_map, toI_length]; omega⟩
    · rw [List.mem_singleton.mp z]; exact ⟨f4, _, kept a4 nu, by rw [List.length_map, lns_length]; omega⟩
structure A7 (H0 : Hp) (u : Addr) (W : List Addr) (H : Hp) (k : Nat) : Prop where
  s : Same H0 H
  n : u ∉ W
  u : H u = some (.lst (W.map V.ref))
  w : ∀ w ∈ W, H0 w = none ∧ ∃ xs, H w = some (.lst xs) ∧ xs.length ≤ 200 + k
theorem A7.app {H0 H : Hp} {u : Addr} {W : List Addr} {k : Nat} (a : A7 H0 u W H k) {w : Addr} (hw : w ∈ W) : ∃ xs, H w = some (.lst xs) ∧ xs.length ≤ 200 + k ∧ A7 H0 u W (upd H w (.lst (xs ++ [V.int 7]))) (k + 1) := by
  obtain ⟨nw, xs, e, l⟩ := a.w w hw
  refine ⟨xs, e, l, fun b o h => ?_, a.n, ?_, fun v hv => ⟨(a.w v hv).1, ?_⟩⟩
  · have hb : b ≠ w := fun z => by rw [z, nw] at h; cases h
    rw [upd_ne hb]; exact a.s _ _ h
  · have hu : u ≠ w := fun z => a.n (by rw [z]; exact hw)
    rw [upd_ne hu]; exact a.u
  · by_cases e2 : v = w
    · exact ⟨xs ++ [V.int 7], by rw [e2, upd_same], by rw [List.length_append, List.length_singleton]; omega⟩
    · obtain ⟨ys, h1, h2⟩ := (a.w v hv).2
      exact ⟨ys, by rw [upd_ne e2]; exact h1, by omega⟩
theorem four_for {K K' : PySem.W.Frag} {C : Addr} {Mu : List Addr} {H : Hp} {p q : Addr} {m : Mo} {σ : L2.St} {g : TG} {tb : TS} {D : Ends} (pg : PgAt C Mu H p q m) (h2 : σ[2]? = some (some (.ref p)))
    (k : ∀ (H' : Hp) (u : Addr) (W : List Addr), Same H H' → H' u = some (.lst (W.map V.ref)) → u ∉ W → W.length = 4 → (∀ w ∈ W, H w = none ∧ ∃ xs, H' w = some (.lst xs) ∧ xs.length ≤ 200) →
      ∃ Y : Nat → Nat → L2.St → Hp → Prop, (∃ m, Y 0 m σ H') ∧ ∀ i m σ H, Y i m σ H →
        ((Itl K' u).stop i H ∧ D.nx σ H) ∨ ((Itl K' u).go i H ∧ ∃ N : L2.St → Hp → Prop, (∀ σ' H', N σ' H' → ∃ m', m' < m ∧ Y (i + 1) m' σ' H') ∧
          ∀ x H', (Itl K' u).yld i H x H' → g x σ H' fun σ2 H2 => tb { D with nx := N, ct := N, bk := D.nx } σ2 H2)) :
    tFor (iList K' (tLst (tCons (tMeth C "words_now" (sp_Page_words_now K C) [] E0 (tVar 2) tNil) (tCons (tMeth C "table_now" (sp_Page_table_now K C) [] E0 (tVar 2) tNil)
      (tCons (tMeth C "starts_now" (sp_Page_starts_now K C) [] E0 (tVar 2) tNil) (tCons (tMeth C "lines_now" (sp_Page_lines_now K C) [] E0 (tVar 2) tNil) tNil)))))) g tb D σ H := by
  unfold tFor iList
  refine four_told (K := K) pg h2 ?_
  intro H' u W s eu uW lW hW
  exact ⟨u, rfl, ⟨_, .of eu⟩, k H' u W s eu uW lW hW⟩
theorem paired_map {α : Type} {F : V → V → Prop} {f g : α → V} : ∀ {L : List α}, (∀ e ∈ L, F (f e) (g e)) → Paired F (L.map f) (L.map g)
  | [], _ => .nil
  | x :: r, h => .cons (h x List.mem_cons_self) (paired_map fun e he => h e (List.mem_cons_of_mem _ he))
theorem paired_self {F : V → V → Prop} : ∀ {L : List V}, (∀ e ∈ L, F e e) → Paired F L L
  | [], _ => .nil
  | x :: r, h => .cons (h x List.mem_cons_self) (paired_self fun e he => h e (List.mem_cons_of_mem _ he))
theorem held_eq {K : PySem.W.Frag} {H : Hp} {L : List HE4} {D1 D2 : Addr} (e1 : H D1 = some (.lst (L.map fun e => V.ref e.2.1))) (e2 : H D2 = some (.lst (L.map fun e => V.ref e.2.2.1)))
    (hL : ∀ e ∈ L, H e.2.1 = some (.lst e.2.2.2) ∧ H e.2.2.1 = some (.lst e.2.2.2) ∧ e.2.2.2.all flatB = true) : EqR K H (EqV K H 2) (.ref D1) (.ref D2) := by
  refine .inl ⟨D1, D2, _, _, rfl, rfl, .of e1, .of e2, paired_map fun e he => ?_⟩
  obtain ⟨h1, h2, h3⟩ := hL e he
  exact .inr (.inr (.inl ⟨_, _, _, _, rfl, rfl, .of h1, .of h2, paired_self fun v hv => .inl ⟨rfl, List.all_eq_true.mp h3 v hv⟩⟩))
theorem sql_keep {K : PySem.W.Frag} {H H' : Hp} {a : Addr} {xs : List V} (h : SqL K H a xs) (k : ∀ o, H a = some o → H' a = some o) : SqL K H' a xs := by
  rcases h with (h | ⟨o, h⟩) | h
  · exact .inl (.inl (k _ h))
  · exact .inl (.inr ⟨o, k _ h⟩)
  · exact .inr h
theorem args2 {u v : V} {σ : L2.St} {H : Hp} {Q : List V → Hp → Prop} (h : Q [u, v] H) : tCons (tC u) (tCons (tC v) tNil) σ H Q := h
theorem pgc_mk {K : PySem.W.Frag} {C : Addr} (pg : PySem.W.plainGet K C Str.empty = true) (hd : PySem.W.hasDictIn K C = true) (po : PySem.W.plainOver K C = true) (sa : PySem.W.findIn K (.ref C) "__setattr__" = some (some (.builtin "object.__setattr__")))
    (nw : PySem.W.findIn K (.ref C) "width" = some none) (nr : PySem.W.findIn K (.ref C) "row" = some none) (nt : PySem.W.findIn K (.ref C) "table" = some none) (np : PySem.W.findIn K (.ref C) "past" = some none) : PgC K C :=
  ⟨⟨pg, hd, po, sa⟩, nw, nr, nt, np⟩
theorem pgm_mk {K : PySem.W.Frag} {h : Heap} {mg : Str → Option Value} {C f : Addr} (X : K.In h) (G : h.Ns mainGlobals mg) (a : PySem.W.nsIn K mainGlobals "Page" = some (some (.ref C))) (mk : PySem.W.makesIn K C = true)
    (it : PySem.W.findIn K (.ref C) "__init__" = some (some (.ref f))) (fn : PySem.W.isFn K (.ref f) = true) (kp : PySem.W.keepIn K (.ref C) = true) (P : PgC K C) (ha : PySem.W.findIn K (.ref C) "__class__" = some (some (.builtin "object.__class__")))
    (hn : PySem.W.specialIn K (.builtin "object.__class__") "__get__" = some (some (.builtin "getset_descriptor.__get__"))) (htk : PySem.W.takesIn K (.builtin "object.__class__") = some true) (hm : PySem.W.mroIn K C (.type "object") = some true)
    (wc : (PySem.W.clsIn K C).isSome = true) (t : PySem.W.typeIn K (.ref C) = some (.type "type")) (s : PySem.W.subIn K (.ref C) (.ref C) = some true) : PgM K mg C :=
  ⟨⟨f, mk, it, fn, kp⟩, PySem.W.mg_of X G a, ⟨P.cl, ha, hn, htk, hm, kit_ref (fun _ => rfl) wc t s⟩⟩
def sp_law (K : PySem.W.Frag) : Sp := fun vs H Q _ => ∃ (a : Addr) (ns : List Int), vs = [.ref a] ∧ SqL K H a (vis ns) ∧ ns.length ≤ 63 ∧ ∀ H', Q (.bl true) H'
theorem body_law {ea : EA} {C : Addr} {tmw : _} (T : Bts mg) (X : Xs K mg ea) (PG : PgC K C) (PM : PgM K mg C) (MW : mg "MOST_WORDS" = some (.int 120 tmw))
    (G__law_cell_at : Ok P w K mg base CX0 1 "_law_cell_at" ["_law_script", "_law_k"] (sp__law_cell_at K))
    (G__law_page_width : Ok P w K mg base CX0 1 "_law_page_width" ["_law_cell"] sp__law_page_width)
    (G__law_page_by : Ok P w K mg base CX0 4 "_law_page_by" ["_law_width"] (sp__law_page_by C))
    (G__law_due : Ok P w K mg base CX0 2 "_law_due" ["_law_row", "_law_width", "_law_past", "_law_deed"] (sp__law_due K))
    (G__law_stands : Ok P w K mg base CX0 9 "_law_stands" ["_law_page", "_law_row", "_law_width", "_law_fully", "_law_held", "_law_way"] (sp__law_stands C))
    (G__law_deeds_by : Ok P w K mg base CX0 4 "_law_deeds_by" ["_law_cell", "_law_count", "_law_width", "_law_filled"] sp__law_deeds_by)
    (G__law_step : Ok P w K mg base CX0 7 "_law_step" ["_law_page", "_law_now", "_law_deed"] (sp__law_step C))
    (G__law_made_good : Ok P w K mg base CX0 1 "_law_made_good" ["_law_due_here", "_law_deed"] sp__law_made_good)
    (G_Page___init__ : OkM P w K mg base (CXn P w) 2 C "__init__" ["self", "width"] (sp_Page___init__ ea C))
    (G_Page_put : OkM P w K mg base (CXn P w) 5 C "put" ["self", "at", "word"] (sp_Page_put ea C))
    (G_Page_words_now : OkM P w K mg base CX0 1 C "words_now" ["self"] (sp_Page_words_now K C))
    (G_Page_table_now : OkM P w K mg base CX0 1 C "table_now" ["self"] (sp_Page_table_now K C)) (G_Page_starts_now : OkM P w K mg base CX0 5 C "starts_now" ["self"] (sp_Page_starts_now K C))
    (G_Page_lines_now : OkM P w K mg base (CXn P w) 6 C "lines_now" ["self"] (sp_Page_lines_now K C))
    (f : Addr) (cdv : Value) (A : Around) (outer : List Env) (s : Shared) (H : Hp) (vs : List V) (Q : VK) (E : XK)
    (hr : Room 9 (A.deeper (envOfC "law" (defScope st_law) s.heap.objs.size f cdv))) (h : sp_law K vs H Q E) :
    ∃ t, PSs (cxOf CX0 P w K mg base N_law "law" (defScope st_law) f cdv A outer s H E).nox (defBody st_law) t ∧ t { nx := fun _ H' => Q .non H', rt := Q } (start N_law vs) H := by
  obtain ⟨a, ns, rfl, hS, hl, q⟩ := h
  refine ⟨_, (pss_cons (ps_set (i := 1) sc_law.nd rfl (Or.inl rfl) (pe_cd G__law_page_width (hr.mono (by decide)) pass0 (pa_cons (pe_cd G__law_cell_at (hr.mono (by decide)) pass0 (pa_cons (pv 0) (pa_cons pe_int pa_nil))) pa_nil)))
      (pss_cons (ps_set (i := 2) sc_law.nd rfl (Or.inl rfl) (pe_cd G__law_page_by (hr.mono (by decide)) pass0 (pa_cons (pv 1) pa_nil)))
      (pss_cons (ps_set (i := 3) sc_law.nd rfl (Or.inl rfl) (pe_cd G__law_page_by (hr.mono (by decide)) pass0 (pa_cons (pe_un un_neg (pe_op op_mod (pe_cd G__law_cell_at (hr.mono (by decide)) pass0 (pa_cons (pv 0) (pa_cons pe_int pa_nil))) (pe_ix (ix_listK K) (pe_lst (pa_cons pe_int (pa_cons (pe_op op_powW pe_int pe_int) pa_nil))) (pe_op op_mod (pe_cd G__law_cell_at (hr.mono (by decide)) pass0 (pa_cons (pv 0) (pa_cons pe_int pa_nil))) pe_int) (fun _ _ => rfl)))) pa_nil)))
      (pss_cons (ps_if (PW.pt (pw_or (pt_not (pt_val (pe_callB (C8.call_isC PM.is) (by rfl) T.m_isinstance (by decide +kernel) (pa_cons (pv 2) (pa_cons (pe_glob (v := .ref _) rfl PM.g rfl) pa_nil))))) (pw_or (pt_cmpR op_ne (pv 3) pe_int (nomark _)) (pw_or1 (pt_cmpR op_ne (pe_glob (v := .int 120) rfl MW ⟨_, rfl⟩) pe_int (nomark _)))))) (pss_one (ps_ret pe_bl)) pss_nil)
      (pss_cons (ps_set (i := 4) sc_law.nd rfl (Or.inl rfl) (pe_tup (pa_cons (pe_lst pa_nil) (pa_cons (pv 1) (pa_cons (pe_lst pa_nil) pa_nil)))))
      (pss_cons (ps_set (i := 5) sc_law.nd rfl (Or.inl rfl) pe_bl)
      (pss_cons (ps_set (i := 6) sc_law.nd rfl (Or.inl rfl) (pe_lst pa_nil))
      (pss_cons (ps_for PassesOwn.never rfl (pi_list (pe_slice (sl_listK K) (pv 0) (po_some pe_int) po_none)) (pg_name (i := 7) sc_law.nd rfl (Or.inl rfl))
      (pss_cons (ps_set (i := 8) sc_law.nd rfl (Or.inl rfl) (pe_cd G__law_deeds_by (hr.mono (by decide)) pass0 (pa_cons (pv 7) (pa_cons (pe_callB (call_lenK K) (by rfl) T.m_len PySem.boot_len (pa_cons (pe_ix (ix_tupK K) (pv 4) pe_int (fun _ _ => rfl)) pa_nil)) (pa_cons (pe_ix (ix_tupK K) (pv 4) pe_int (fun _ _ => rfl)) (pa_cons (pv 5) pa_nil))))))
      (C8.pss_cut (ps_set (i := 5) sc_law.nd rfl (Or.inl rfl) (pe_or (pv 5) (pe_one (pe_cmpR op_gt (pe_callB (call_lenK K) (by rfl) T.m_len PySem.boot_len (pa_cons (pv 8) pa_nil)) pe_int (nomark _)))))
      (pss_cons (ps_for PassesOwn.never rfl (pi_list (pv 8)) (pg_name (i := 9) sc_law.nd rfl (Or.inl rfl))
      (pss_one (ps_for PassesOwn.never rfl (pi_list (pe_op op_cat (pe_lst (pa_cons (pv 9) pa_nil)) (pe_cd G__law_made_good (hr.mono (by decide)) pass0 (pa_cons (pe_cd G__law_due (hr.mono (by decide)) pass0 (pa_cons (pe_ix (ix_tupK K) (pv 4) pe_int (fun _ _ => rfl)) (pa_cons (pe_ix (ix_tupK K) (pv 4) pe_int (fun _ _ => rfl)) (pa_cons (pe_ix (ix_tupK K) (pv 4) pe_int (fun _ _ => rfl)) (pa_cons (pv 9) pa_nil))))) (pa_cons (pv 9) pa_nil))))) (pg_name (i := 10) sc_law.nd rfl (Or.inl rfl))
      (pss_cons (ps_set (i := 4) sc_law.nd rfl (Or.inl rfl) (pe_cd G__law_step (hr.mono (by decide)) pass0 (pa_cons (pv 2) (pa_cons (pv 4) (pa_cons (pv 10) pa_nil)))))
      (pss_one (ps_if (pt_cmpR op_isN (pv 4) pe_non (nomark _)) (pss_one (ps_ret pe_bl)) pss_nil))))))
      (pss_cons (ps_if (pt_not (pt_val (pe_cd G__law_stands (hr.mono (by decide)) pass0 (pa_cons (pv 2) (pa_cons (pe_ix (ix_tupK K) (pv 4) pe_int (fun _ _ => rfl)) (pa_cons (pe_ix (ix_tupK K) (pv 4) pe_int (fun _ _ => rfl)) (pa_cons (pe_cmpR op_eq (pe_op op_mod (pe_callB (call_lenK K) (by rfl) T.m_len PySem.boot_len (pa_cons (pe_ix (ix_tupK K) (pv 4) pe_int (fun _ _ => rfl)) pa_nil)) pe_int) pe_int (nomark _)) (pa_cons (pv 6) (pa_cons (pv 7) pa_nil))))))))) (pss_one (ps_ret pe_bl)) pss_nil)
      (pss_one (ps_if (PW.pt (pw_and (pt_cmpR op_eq (pe_op op_mod (pe_op op_fdiv (pv 7) pe_int) pe_int) pe_int (nomark _)) (pw_and1 (pt_cmpR op_lt (pe_callB (call_lenK K) (by rfl) T.m_len PySem.boot_len (pa_cons (pe_ix (ix_tupK K) (pv 4) pe_int (fun _ _ => rfl)) pa_nil)) pe_int (nomark _))))) (pss_one (ps_for PassesOwn.never rfl (pi_list (pe_lst (pa_cons (pe_md0 (pv 2) PG.cl G_Page_words_now (hr.mono (by decide)) pass0) (pa_cons (pe_md0 (pv 2) PG.cl G_Page_table_now (hr.mono (by decide)) pass0) (pa_cons (pe_md0 (pv 2) PG.cl G_Page_starts_now (hr.mono (by decide)) pass0) (pa_cons (pe_md0 (pv 2) PG.cl G_Page_lines_now (hr.mono (by decide)) passN) pa_nil)))))) (pg_name (i := 11) sc_law.nd rfl (Or.inl rfl))
      (pss_one (ps_expr (pe_bm PySem.F.plainAttrs_list PySem.F.slot_list_append PySem.F.type_list_append mt_append (pv 11) (pa_cons pe_int pa_nil)))))) pss_nil)))))))
      (pss_cons (ps_for PassesOwn.never rfl (pi_list (pe_lst (pa_cons (pe_md0 (pv 2) PG.cl G_Page_words_now (hr.mono (by decide)) pass0) (pa_cons (pe_md0 (pv 2) PG.cl G_Page_table_now (hr.mono (by decide)) pass0) (pa_cons (pe_md0 (pv 2) PG.cl G_Page_starts_now (hr.mono (by decide)) pass0) (pa_cons (pe_md0 (pv 2) PG.cl G_Page_lines_now (hr.mono (by decide)) passN) pa_nil)))))) (pg_name (i := 11) sc_law.nd rfl (Or.inl rfl))
      (pss_one (ps_expr (pe_bm PySem.F.plainAttrs_list PySem.F.slot_list_append PySem.F.type_list_append mt_append (pv 11) (pa_cons pe_int pa_nil)))))
      (pss_cons (ps_set (i := 12) sc_law.nd rfl (Or.inl rfl) (pe_mkM G_Page___init__ PM.mkC (hr.mono (by decide)) PM.g passN (pa_cons (pe_op op_add pe_int (pe_op op_mod (pe_cd G__law_cell_at (hr.mono (by decide)) pass0 (pa_cons (pv 0) (pa_cons pe_int pa_nil))) pe_int)) pa_nil)))
      (pss_cons (ps_if (PW.pt (pw_or (pt_not (pt_val (pe_cd G__law_stands (hr.mono (by decide)) pass0 (pa_cons (pv 12) (pa_cons (pe_lst pa_nil) (pa_cons (pe_op op_add pe_int (pe_op op_mod (pe_cd G__law_cell_at (hr.mono (by decide)) pass0 (pa_cons (pv 0) (pa_cons pe_int pa_nil))) pe_int)) (pa_cons pe_bl (pa_cons (pv 6) (pa_cons (pv 1) pa_nil))))))))) (pw_or1 (pt_cmpR op_notN (pe_md (pv 12) PG.cl G_Page_put (hr.mono (by decide)) passN (pa_cons pe_int (pa_cons pe_str pa_nil))) pe_non (nomark _))))) (pss_one (ps_ret pe_bl)) pss_nil)
      (pss_cons (ps_if (pt_not (pt_val (pe_cd G__law_stands (hr.mono (by decide)) pass0 (pa_cons (pv 12) (pa_cons (pe_lst (pa_cons pe_str pa_nil)) (pa_cons (pe_op op_add pe_int (pe_op op_mod (pe_cd G__law_cell_at (hr.mono (by decide)) pass0 (pa_cons (pv 0) (pa_cons pe_int pa_nil))) pe_int)) (pa_cons pe_bl (pa_cons (pv 6) (pa_cons (pv 1) pa_nil))))))))) (pss_one (ps_ret pe_bl)) pss_nil)
      (pss_cons (ps_if (pt_not (pt_val (pe_cd G__law_stands (hr.mono (by decide)) pass0 (pa_cons (pv 2) (pa_cons (pe_ix (ix_tupK K) (pv 4) pe_int (fun _ _ => rfl)) (pa_cons (pe_ix (ix_tupK K) (pv 4) pe_int (fun _ _ => rfl)) (pa_cons pe_bl (pa_cons (pv 6) (pa_cons (pe_cd G__law_cell_at (hr.mono (by decide)) pass0 (pa_cons (pv 0) (pa_cons pe_int pa_nil))) pa_nil))))))))) (pss_one (ps_ret pe_bl)) pss_nil)
      (pss_one (ps_ret (pe_cmpR (op_eqV hr.units) (pe_lc (own := [("_law_pair", 13)]) (g := gName 13) (tt := tYes) rfl sc_law.nd (pi_list (pv 6)) (blkOk_by (own := [("_law_pair", 13)]) (N := N_law) (sc := defScope st_law) (by decide +kernel)) (fun _ _ _ _ _ => pg_name (i := 13) sc_law.nd rfl (Or.inl rfl)) (fun _ _ _ _ _ => pts_nil) (fun _ _ _ _ _ => (pe_ix (ix_tupK K) (pv 13) pe_int (fun _ _ => rfl)))) (pe_lc (own := [("_law_pair", 13)]) (g := gName 13) (tt := tYes) rfl sc_law.nd (pi_list (pv 6)) (blkOk_by (own := [("_law_pair", 13)]) (N := N_law) (sc := defScope st_law) (by decide +kernel)) (fun _ _ _ _ _ => pg_name (i := 13) sc_law.nd rfl (Or.inl rfl)) (fun _ _ _ _ _ => pts_nil) (fun _ _ _ _ _ => (pe_ix (ix_tupK K) (pv 13) pe_int (fun _ _ => rfl)))) (nomark _))))))))))))))))), ?_⟩
  have h30 : (10 : Int) ^ (30 : Int).toNat = 10 ^ 30 := by decide
  -- the page
  refine ⟨_, rfl, a, ns, 0, rfl, hS, cell ns 0, rfl, fun H1 n s1 n1 n2 => ?_⟩
  have wn : Wb n := Wb.sm (by omega) (by omega)
  refine ⟨_, rfl, n, rfl, wn, fun z => by omega, fun _ H2 p pq s2 np nq pg => ?_⟩
  have pg2 : PgAt C [p, pq] H2 p pq ⟨([], n), []⟩ := pg [] (fun _ z => nomatch z)
  have s02 := s1.trans s2
  have np0 : H p = none := s1.free np
  have nq0 : H pq = none := s1.free nq
  clear s1 s2 pg np nq
  -- a page that is refused
  obtain ⟨c, hc⟩ : ∃ c, cell ns 1 = c := ⟨_, rfl⟩
  refine ⟨_, rfl, a, ns, 1, rfl, s02.seq hS, _, _, rfl, rfl, by decide, by decide +kernel, sz (by simp), fun l nl => ?_⟩
  have s03 := s02.new (o := HO.lst [V.int 3, V.int (10 ^ (30 : Int).toNat)]) nl
  have s23 := (Same.refl H2).new (o := HO.lst [V.int 3, V.int (10 ^ (30 : Int).toNat)]) nl
  obtain ⟨j, hj⟩ : ∃ j : Nat, cell ns 1 % 2 = (j : Int) := ⟨(cell ns 1 % 2).toNat, by omega⟩
  have hv : ∃ v : Int, ([V.int 3, V.int (10 ^ (30 : Int).toNat)])[j]? = some (.int v) ∧ 1 ≤ v ∧ v ≤ 10 ^ 30 := by
    rcases (show j = 0 ∨ j = 1 by omega) with z | z <;> subst z
    · exact ⟨_, rfl, by decide, by decide⟩
    · exact ⟨_, rfl, by rw [h30]; decide, by rw [h30]; exact Int.le_refl _⟩
  obtain ⟨v, hv, v1, v2⟩ := hv
  refine ⟨_, rfl, a, ns, 1, rfl, s03.seq hS, _, _, rfl, rfl, (show (0 : Int) < 2 by decide), l, _, _, _, rfl, rfl, .of upd_same, at_of hj hv, _, _, rfl, rfl, (show (0 : Int) < v by omega), _, rfl, ?_⟩
  have m1 := Int.emod_nonneg (cell ns 1) (b := v) (by omega)
  have m2 := Int.emod_lt_of_pos (cell ns 1) (b := v) (by omega)
  generalize cell ns 1 % v = u at m1 m2 ⊢
  generalize upd H2 l (HO.lst [V.int 3, V.int (10 ^ (30 : Int).toNat)]) = H3 at s03 s23 ⊢
  refine ⟨-u, rfl, by unfold Wb; omega, fun _ H4 s34 => ?_, fun z => by omega⟩
  have s04 := s03.trans s34
  have s24 := s23.trans s34
  have pg4 := pg2.same s24
  clear s02 s03 s23 nl s34 hv
  obtain ⟨dx, fs, r, t, e1, F, row⟩ := pg4.ex
  refine ⟨_, rfl, p, dx, fs, rfl, e1, true, rfl, iteF ?_⟩
  refine ⟨_, rfl, rfl, _, rfl, ?_⟩
  rw [show (!decide (V.int 1 = V.int 1)) = false by simp]
  refine iteF ?_
  refine ⟨rfl, _, rfl, ?_⟩
  rw [show (!decide (V.int 120 = V.int 120)) = false by simp]
  refine iteF ?_
  -- what stands
  refine ⟨sz (by simp), fun x nx => ⟨_, rfl, sz (by simp), fun y ny => ⟨sz (by simp), fun o no => ?_⟩⟩⟩
  have t1 := (Same.refl H4).new (o := HO.lst []) nx
  have ex1 : (upd H4 x (HO.lst [])) x = some (.lst []) := upd_same
  have nx0 : x ∉ [p, pq] := pg4.live.nin nx
  generalize upd H4 x (HO.lst []) = H5 at t1 ex1 ny no ⊢
  have t2 := t1.new (o := HO.lst []) ny
  have ex2 := kept ex1 ny (o := HO.lst [])
  have ey2 : (upd H5 y (HO.lst [])) y = some (.lst []) := upd_same
  have ny0 : y ∉ [p, pq] := pg4.live.nin (t1.free ny)
  generalize upd H5 y (HO.lst []) = H6 at t2 ex2 ey2 no ⊢
  have t3 := t2.new (o := HO.tup [V.ref x, V.int n, V.ref y]) no
  have ex3 := kept ex2 no (o := HO.tup [V.ref x, V.int n, V.ref y])
  have ey3 := kept ey2 no (o := HO.tup [V.ref x, V.int n, V.ref y])
  have eo3 : (upd H6 o (HO.tup [V.ref x, V.int n, V.ref y])) o = some (.tup [V.ref x, V.int n, V.ref y]) := upd_same
  have no0 : o ∉ [p, pq] := pg4.live.nin (t2.free no)
  generalize upd H6 o (HO.tup [V.ref x, V.int n, V.ref y]) = H7 at t3 ex3 ey3 eo3 ⊢
  have now7 : NowAt [p, pq] H7 o ⟨([], n), []⟩ := ⟨x, y, ⟨eo3, no0⟩, ⟨ex3, nx0⟩, [], ⟨ey3, ny0⟩, rfl, fun _ z => nomatch z⟩
  refine ⟨sz (by simp), fun h nh => ?_⟩
  have s78 := (Same.refl H7).new (o := HO.lst []) nh
  have eh8 : (upd H7 h (HO.lst [])) h = some (.lst []) := upd_same
  generalize upd H7 h (HO.lst []) = H8 at s78 eh8 ⊢
  have nh' : ∀ y ∈ [h], H7 y = none := fun y hy => by rw [List.mem_singleton.mp hy]; exact nh
  have pg8 : PgAt C [h, p, pq] H8 p pq ⟨([], n), []⟩ := (pg4.same t3).growL (ys := [h]) nh' s78 (fun y hy => by rw [List.mem_singleton.mp hy, eh8]; exact fun z => nomatch z)
  have now8 : NowAt [h, p, pq] H8 o ⟨([], n), []⟩ := now7.growL (ys := [h]) nh' s78
  have hd8 : HeldAt [h, p, pq] H8 h 0 := ⟨[], eh8, Nat.le_refl _, fun _ z => nomatch z⟩
  have hm : h ∈ [h, p, pq] := List.mem_cons_self
  have s08 : Same H H8 := (s04.trans t3).trans s78
  have hp : h ≠ p := fun z => by rw [z] at nh; have := pg4.same t3; obtain ⟨_, _, _, _, g, _⟩ := this.ex; rw [nh] at g; cases g
  have hq : h ≠ pq := fun z => by rw [z] at nh; have := pg4.same t3; obtain ⟨_, g, _⟩ := this.past; rw [nh] at g; cases g
  have ppq : p ≠ pq := pg4.pq
  have nh0 : H h = none := (s04.trans t3).free nh
  clear t1 t2 t3 ex1 ex2 ey2 ex3 ey3 eo3 nx0 ny0 no0 now7 s78 nx ny no e1 F row pg4 pg2 s24 nh' eh8
  -- the deeds
  refine ⟨_, rfl, 2, rfl, a, _, rfl, s08.seq hS, fun l nl => ?_⟩
  have el : (upd H8 l (HO.lst (cutV (vis ns) (some 2) none))) l = some (.lst (vis (ns.drop 2))) := by
    rw [upd_same]; exact congrArg some (congrArg HO.lst (cut_from V.int ns 2))
  have s89 := (Same.refl H8).new (o := HO.lst (cutV (vis ns) (some 2) none)) nl
  have nlM : l ∉ [h, p, pq] := pg8.live.nin nl
  generalize upd H8 l (HO.lst (cutV (vis ns) (some 2) none)) = H9 at el s89 ⊢
  have pg9 := pg8.same s89
  have now9 := now8.same s89
  have hd9 := hd8.same s89
  have s09 := s08.trans s89
  obtain ⟨Mu, hMu⟩ : ∃ Mu, [h, p, pq] = Mu := ⟨_, rfl⟩
  rw [hMu] at pg9 now9 hd9 hm nlM
  have freeMu : ∀ x ∈ Mu, H x = none := fun x hx => by
    rw [← hMu] at hx
    rcases List.mem_cons.mp hx with z | z
    · rw [z]; exact nh0
    rcases List.mem_cons.mp z with z | z
    · rw [z]; exact np0
    · rw [List.mem_singleton.mp z]; exact nq0
  have subP : ∀ x ∈ [p, pq], x ∈ Mu := fun x hx => by rw [← hMu]; exact List.mem_cons_of_mem _ hx
  have subH : ∀ x ∈ [h], x ∈ Mu := fun x hx => by rw [List.mem_singleton.mp hx]; exact hm
  have keepS : ∀ {H'}, Kp Mu H9 H' → SqL K H' a (vis ns) := fun {H'} k => sql_keep hS fun o e => k _ _ (fun z => by rw [freeMu a z] at e; cases e) (s09 _ _ e)
  clear pg8 now8 hd8 nl s89 s08 nh
  have hdl : (ns.drop 2).length ≤ 61 := by rw [List.length_drop]; omega
  refine ⟨l, rfl, ⟨_, .of el⟩, ?_⟩
  refine for_lst (f := V.int) (l := ns.drop 2) (fun d _ σ H' => ∃ (m : Mo) (now : Addr) (fl : Bool) (y7 y8 y9 y10 y11 : Option V),
      σ = [some (.ref a), some (.int n), some (.ref p), some (.int 1), some (.ref now), some (.bl fl), some (.ref h), y7, y8, y9, y10, y11, none, none] ∧
      PgAt C Mu H' p pq m ∧ NowAt Mu H' now m ∧ HeldAt Mu H' h (4 * d.length) ∧ m.past.length ≤ 360 * d.length ∧ Kp Mu H9 H') ?_ ?_ ?_ ?_
  · exact ⟨_, o, false, none, none, none, none, none, rfl, pg9, now9, hd9, Nat.zero_le _, Kp.refl _ _⟩
  · rintro d r σ H' ⟨m, now, fl, y7, y8, y9, y10, y11, rfl, pg, na, hd, hpl, kk⟩
    exact .of (kk _ _ nlM el)
  · rintro d cl rr σ H' ed ⟨m, now, fl, y7, y8, y9, y10, y11, rfl, pg, na, hd, hpl, kk⟩
    have hdd : d.length + 1 ≤ 61 := by
      have : (ns.drop 2).length = d.length + (rr.length + 1) := by rw [ed]; simp
      omega
    obtain ⟨r, z, en, er, L, ez, eL, hL⟩ := na.ex
    have mok := pg.ok
    have hle := mok.st.le
    refine ⟨_, rfl, _, rfl, now, _, ((0 : Nat) : Int), _, rfl, rfl, .of en.1, rfl, r, _, rfl, .inl (.of er.1), _, rfl, now, _, ((1 : Nat) : Int), _, rfl, rfl, .of en.1, rfl, _, rfl, ?_⟩
    refine ⟨Mu, cl, (vts m.st.1).length, m.st.2, fl, rfl, pg.live, by rw [List.length_map]; omega, fun H1 D ds s1 dsAt dok dl => ?_⟩
    obtain ⟨LD, fD, rfl, hLD⟩ := dsAt.ex
    rw [List.length_map] at dl
    have pg1 := pg.same s1
    have na1 := na.same s1
    have hd1 := hd.same s1
    have kk1 : Kp Mu H9 H1 := kk.trans (Kp.of s1)
    clear pg na hd kk s1 en er ez hL eL mok hle
    refine ⟨fun σ H' => H' = H1 ∧ ∃ fl', σ = [some (.ref a), some (.int n), some (.ref p), some (.int 1), some (.ref now), some (.bl fl'), some (.ref h), some (.int cl), some (.ref D), y9, y10, y11, none, none], ?_, ?_⟩
    · refine ⟨_, rfl, fl, rfl, ?_⟩
      cases fl with
      | true => exact iteT ⟨rfl, _, rfl⟩
      | false => exact iteF ⟨_, rfl, D, _, rfl, .inl (.of fD.1), _, _, rfl, rfl, rfl, _, rfl⟩
    rintro σ H1' ⟨rfl, fl', rfl⟩
    refine ⟨_, rfl, D, rfl, ⟨_, .of fD.1⟩, ?_⟩
    refine for_lst (f := fun e : Addr × Deed => V.ref e.1) (l := LD) (fun d2 _ σ H2 => ∃ (m2 : Mo) (now2 : Addr) (y9 y10 : Option V),
        σ = [some (.ref a), some (.int n), some (.ref p), some (.int 1), some (.ref now2), some (.bl fl'), some (.ref h), some (.int cl), some (.ref D), y9, y10, y11, none, none] ∧
        PgAt C Mu H2 p pq m2 ∧ NowAt Mu H2 now2 m2 ∧ HeldAt Mu H2 h (4 * d.length) ∧ m2.past.length ≤ 360 * d.length + 3 * d2.length ∧ Kp Mu H1' H2) ?_ ?_ ?_ ?_
    · exact ⟨m, now, y9, y10, rfl, pg1, na1, hd1, by simp; omega, Kp.refl _ _⟩
    · rintro d2 r2 σ H2 ⟨m2, now2, y9, y10, rfl, pg2, na2, hd2, hp2, k2⟩
      exact .of (fD.keep k2 (fun x h => h)).1
    · rintro d2 e2 r2 σ H2 ed2 ⟨m2, now2, y9, y10, rfl, pg2, na2, hd2, hp2, k2⟩
      have hd2l : d2.length + 1 ≤ 119 := by
        have : LD.length = d2.length + (r2.length + 1) := by rw [ed2]; simp
        omega
      have he2 : e2 ∈ LD := by rw [ed2]; simp
      have fe2 := (hLD e2 he2).keep k2 (fun x h => h)
      have ok2 : e2.2.ok := dok _ (List.mem_map.mpr ⟨e2, he2, rfl⟩)
      obtain ⟨r, z, en, er, L, ez, eL, hL⟩ := na2.ex
      have hLl : (L.map fun e => V.ref e.1).length = m2.past.length := by rw [eL, List.length_map, List.length_map]
      refine ⟨_, rfl, sz (by simp), fun e ne => ?_⟩
      have s3 := (Same.refl H2).new (o := HO.lst [V.ref e2.1]) ne
      have ee3 : (upd H2 e (HO.lst [V.ref e2.1])) e = some (.lst [V.ref e2.1]) := upd_same
      generalize upd H2 e (HO.lst [V.ref e2.1]) = H3 at s3 ee3 ⊢
      refine ⟨_, rfl, now2, _, ((0 : Nat) : Int), _, rfl, rfl, .of (en.same s3).1, rfl, _, rfl, now2, _, ((1 : Nat) : Int), _, rfl, rfl, .of (en.same s3).1, rfl, _, rfl, now2, _, ((2 : Nat) : Int), _, rfl, rfl, .of (en.same s3).1, rfl, _, rfl, ?_⟩
      refine ⟨r, z, e2.1, m2, e2.2, _, rfl, (er.same s3).1, (ez.same s3).1, hLl, (fe2.same s3).1, pg2.ok.st.bw, ok2, fun H4 s4 => ?_⟩
      refine ⟨_, rfl, Mu, due m2 e2.2, e2.1, e2.2, rfl, (pg2.live.same s3).same s4, (fe2.same s3).same s4, ok2, fun H5 g s5 ng dsg => ?_⟩
      obtain ⟨L2, fg, eL2, hL2⟩ := dsg.ex
      have s35 := s4.trans s5
      have s25 := s3.trans s35
      have hl2 : L2.length ≤ 2 := by have := good2_len e2.2 (due m2 e2.2); rw [eL2, List.length_map] at this; exact this
      have ok3 : ∀ x ∈ L2, x.2.ok := fun x hx => good2_ok ok2 (due m2 e2.2) x.2 (by rw [eL2]; exact List.mem_map.mpr ⟨x, hx, rfl⟩)
      refine ⟨e, g, _, _, rfl, rfl, s35 _ _ ee3, fg.1, sz (by simp; omega), fun u nu => ?_⟩
      have s6 := s25.new (o := HO.lst ([V.ref e2.1] ++ L2.map fun e => V.ref e.1)) nu
      have s56 := (Same.refl H5).new (o := HO.lst ([V.ref e2.1] ++ L2.map fun e => V.ref e.1)) nu
      have eu6 : (upd H5 u (HO.lst ([V.ref e2.1] ++ L2.map fun e => V.ref e.1))) u = some (.lst ((e2 :: L2).map fun e => V.ref e.1)) := upd_same
      have nu0 : u ∉ Mu := pg2.live.nin (s25.free nu)
      generalize upd H5 u (HO.lst ([V.ref e2.1] ++ L2.map fun e => V.ref e.1)) = H6 at s6 s56 eu6 ⊢
      have fall : ∀ x ∈ e2 :: L2, Fz Mu H6 x.1 (.tup x.2.vals) ∧ x.2.ok := fun x hx => by
        rcases List.mem_cons.mp hx with y | y
        · rw [y]; exact ⟨fe2.same s6, ok2⟩
        · exact ⟨(hL2 x y).same s56, ok3 x y⟩
      have k26 : Kp Mu H1' H6 := k2.trans (Kp.of s6)
      have pg6 := pg2.same s6
      have na6 := na2.same s6
      have hd6 := hd2.same s6
      have hL3 : (e2 :: L2).length ≤ 3 := by simp; omega
      clear pg2 na2 hd2 k2 s3 ee3 s4 s5 s35 s25 ng dsg fg hL2 ok3 s6 s56 fe2 en er ez hL nu ne
      refine ⟨u, rfl, ⟨_, .of eu6⟩, ?_⟩
      refine for_lst (f := fun e : Addr × Deed => V.ref e.1) (l := e2 :: L2) (fun d3 _ σ H7 => ∃ (m3 : Mo) (now3 : Addr) (y10 : Option V),
          σ = [some (.ref a), some (.int n), some (.ref p), some (.int 1), some (.ref now3), some (.bl fl'), some (.ref h), some (.int cl), some (.ref D), some (.ref e2.1), y10, y11, none, none] ∧
          PgAt C Mu H7 p pq m3 ∧ NowAt Mu H7 now3 m3 ∧ HeldAt Mu H7 h (4 * d.length) ∧ m3.past.length ≤ 360 * d.length + 3 * d2.length + d3.length ∧ Kp Mu H6 H7) ?_ ?_ ?_ ?_
      · exact ⟨m2, now2, y10, rfl, pg6, na6, hd6, by simp; omega, Kp.refl _ _⟩
      · rintro d3 r3 σ H7 ⟨m3, now3, y10, rfl, pg3, na3, hd3, hp3, k3⟩
        exact .of (k3 _ _ nu0 eu6)
      · rintro d3 e3 r3 σ H7 ed3 ⟨m3, now3, y10, rfl, pg3, na3, hd3, hp3, k3⟩
        have hd3l : d3.length + 1 ≤ 3 := by
          have : (e2 :: L2).length = d3.length + (r3.length + 1) := by rw [ed3]; simp
          omega
        obtain ⟨fe3, ok3⟩ := fall e3 (by rw [ed3]; simp)
        refine ⟨_, rfl, _, rfl, _, rfl, Mu, p, pq, now3, e3.1, m3, e3.2, rfl, pg3, na3, fe3.keep k3 (fun x h => h), ok3, by omega, fun H8 now4 k4 pg4 na4 => ?_⟩
        refine ⟨_, rfl, rfl, _, rfl, tst (c := False) (by simp) (fun z => z.elim) (fun _ => ?_)⟩
        have hln := nxt_len m3 e3.2
        refine ⟨_, now4, _, rfl, pg4, na4, hd3.keep k4 subP (by simp [hp, hq]), by rw [List.length_append, List.length_singleton]; omega, k3.trans (k4.mono subP)⟩
      · rintro σ H7 ⟨m3, now3, y10, rfl, pg3, na3, hd3, hp3, k3⟩
        exact ⟨m3, now3, _, _, rfl, pg3, na3, hd3, by rw [List.length_append, List.length_singleton]; omega, k26.trans k3⟩
    · rintro σ H2 ⟨m2, now2, w9, w10, rfl, pg2, na2, hd2, hp2, k2⟩
      obtain ⟨r, z, en, er, L, ez, eL, hL⟩ := na2.ex
      refine ⟨_, rfl, _, rfl, now2, _, ((0 : Nat) : Int), _, rfl, rfl, .of en.1, rfl, _, rfl, now2, _, ((1 : Nat) : Int), _, rfl, rfl, .of en.1, rfl, _, rfl, now2, _, ((2 : Nat) : Int), _, rfl, rfl, .of en.1, rfl, z, _, rfl, .inl (.of ez.1), _, _, rfl, rfl, (show (0 : Int) < 16 by decide), rfl, _, rfl, _, rfl, ?_⟩
      refine ⟨Mu, p, pq, r, h, m2, _, cl, 4 * d.length, rfl, pg2, hm, er, hd2, by omega, fun H8 k8 hd8 => ⟨true, rfl, iteF ?_⟩⟩
      have pg8 : PgAt C Mu H8 p pq m2 := pg2.keep k8 subH (by simp [Ne.symm hp]) (by simp [Ne.symm hq]) hd8.live
      have na8 := na2.keep k8 subH
      have en8 := en.keep k8 subH
      have er8 := er.keep k8 subH
      have kk8 : Kp Mu H9 H8 := (kk1.trans k2).trans (k8.mono subH)
      have hp8 : m2.past.length ≤ 360 * (d.length + 1) := by omega
      clear pg2 na2 hd2 k2 k8 en er ez hL eL
      have done : ∀ (H10 : Hp) (y11 : Option V), Same H8 H10 → ∃ (m : Mo) (now : Addr) (fl : Bool) (y7 y8 y9 y10 y11' : Option V),
          [some (V.ref a), some (.int n), some (.ref p), some (.int 1), some (.ref now2), some (.bl fl'), some (.ref h), some (.int cl), some (.ref D), w9, w10, y11, none, none] =
            [some (.ref a), some (.int n), some (.ref p), some (.int 1), some (.ref now), some (.bl fl), some (.ref h), y7, y8, y9, y10, y11', none, none] ∧
          PgAt C Mu H10 p pq m ∧ NowAt Mu H10 now m ∧ HeldAt Mu H10 h (4 * (d ++ [cl]).length) ∧ m.past.length ≤ 360 * (d ++ [cl]).length ∧ Kp Mu H9 H10 := fun H10 y11 s10 => by
        rw [List.length_append, List.length_singleton]
        exact ⟨m2, now2, fl', _, _, w9, w10, y11, rfl, pg8.same s10, na8.same s10, (hd8.same s10).more (by omega), hp8, kk8.trans (Kp.of s10)⟩
      refine ⟨_, rfl, _, _, rfl, rfl, ⟨by decide, by decide⟩, _, _, rfl, rfl, (show (0 : Int) < 8 by decide), rfl, _, rfl, ?_⟩
      rw [dec_vi]
      by_cases g1 : cl / 5 % 8 = 1
      · rw [decide_eq_true g1]
        refine iteT ⟨_, rfl, now2, _, ((0 : Nat) : Int), _, rfl, rfl, .of en8.1, rfl, r, _, rfl, .inl (.of er8.1), _, _, rfl, rfl, _, rfl, tst (c := (((vts m2.st.1).length : Nat) : Int) < 21) rfl (fun _ => ?_) (fun _ => done H8 y11 (Same.refl _))⟩
        refine four_for pg8 rfl fun H9' u W s9 eu uW lW hW => ?_
        refine for_lst (f := V.ref) (l := W) (fun d3 _ σ H10 => (∃ y11, σ = [some (.ref a), some (.int n), some (.ref p), some (.int 1), some (.ref now2), some (.bl fl'), some (.ref h), some (.int cl), some (.ref D), w9, w10, y11, none, none]) ∧ A7 H8 u W H10 d3.length) ?_ ?_ ?_ ?_
        · exact ⟨⟨_, rfl⟩, s9, uW, eu, hW⟩
        · rintro d3 r3 σ H10 ⟨_, a7⟩; exact .of a7.u
        · rintro d3 w r3 σ H10 ed3 ⟨⟨y11, rfl⟩, a7⟩
          obtain ⟨xs, ew, lw, a8⟩ := a7.app (w := w) (by rw [ed3]; simp)
          have : d3.length ≤ 4 := by have h1 := congrArg List.length ed3; rw [List.length_append] at h1; omega
          exact ⟨_, rfl, .inl ⟨rfl, _, .of ew⟩, w, xs, _, rfl, rfl, ew, szl (by omega), ⟨_, rfl⟩, by rw [List.length_append, List.length_singleton]; exact a8⟩
        · rintro σ H10 ⟨⟨y11, rfl⟩, a7⟩
          exact done H10 y11 a7.s
      · rw [decide_eq_false g1]
        exact iteF (iteF (done H8 y11 (Same.refl _)))
  · rintro σ H' ⟨m, now, fl, y7, y8, y9, y10, y11, rfl, pg, na, hd, hpl, kk⟩
    have hp0 : m.past.length ≤ 21960 := by omega
    have hd0 : HeldAt Mu H' h 244 := hd.more (by omega)
    clear hd hpl
    refine four_for pg rfl fun H10 u W s10 eu uW lW hW => ?_
    refine for_lst (f := V.ref) (l := W) (fun d3 _ σ H11 => (∃ y11, σ = [some (.ref a), some (.int n), some (.ref p), some (.int 1), some (.ref now), some (.bl fl), some (.ref h), y7, y8, y9, y10, y11, none, none]) ∧ A7 H' u W H11 d3.length) ?_ ?_ ?_ ?_
    · exact ⟨⟨_, rfl⟩, s10, uW, eu, hW⟩
    · rintro d3 r3 σ H11 ⟨_, a7⟩; exact .of a7.u
    · rintro d3 w r3 σ H11 ed3 ⟨⟨y11, rfl⟩, a7⟩
      obtain ⟨xs, ew, lw, a8⟩ := a7.app (w := w) (by rw [ed3]; simp)
      have : d3.length ≤ 4 := by have h1 := congrArg List.length ed3; rw [List.length_append] at h1; omega
      exact ⟨_, rfl, .inl ⟨rfl, _, .of ew⟩, w, xs, _, rfl, rfl, ew, szl (by omega), ⟨_, rfl⟩, by rw [List.length_append, List.length_singleton]; exact a8⟩
    rintro σ H11 ⟨⟨y11, rfl⟩, a7⟩
    have s11 := a7.s
    have pg1 := pg.same s11
    have na1 := na.same s11
    have hd1 := hd0.same s11
    have k11 := kk.trans (Kp.of s11)
    have hS1 := keepS k11
    clear pg na hd0 kk s11 a7 hW eu uW lW s10
    -- another page
    have c91 : 1 ≤ 1 + cell ns 1 % 9 ∧ 1 + cell ns 1 % 9 ≤ 9 := by omega
    refine ⟨_, rfl, a, ns, 1, rfl, hS1, _, _, rfl, rfl, (show (0 : Int) < 9 by decide), _, _, rfl, rfl, fun x dx nx ndx hx => ?_⟩
    refine ⟨x, dx, 1 + cell ns 1 % 9, rfl, upd_same, fun z => by omega, fun _ H12 fs r t q2 F ep nr nt nq rt rq tq er et eq kx => ⟨rfl, ?_⟩⟩
    obtain ⟨s12, nq2, pgx⟩ := page_made nx ndx F ep nr nt nq rq tq er et eq kx (by omega) (Wb.sm (n := 1 + cell ns 1 % 9) (by omega) (by omega))
    have pgo : PgAt C ([x, q2] ++ Mu) H12 x q2 ⟨([], 1 + cell ns 1 % 9), []⟩ := pgx Mu pg1.live
    have nys : ∀ y ∈ [x, q2], H11 y = none := fun y hy => by
      rcases List.mem_cons.mp hy with z | z
      · rw [z]; exact nx
      · rw [List.mem_singleton.mp z]; exact nq2
    have eys : ∀ y ∈ [x, q2], H12 y ≠ none := fun y hy => pgo.live y (List.mem_append_left _ hy)
    have pg2 := pg1.growL nys s12 eys
    have na2 := na1.growL nys s12
    have hd2 := hd1.growL nys s12
    have nin2 : ∀ y ∈ Mu, y ∉ [x, q2] := fun y hy z => pg1.live y hy (nys y z)
    have hx2 : h ∉ [x, q2] := nin2 h hm
    have px2 : p ∉ [x, q2] := nin2 p pg1.pm
    have qx2 : pq ∉ [x, q2] := nin2 pq pg1.qm
    have k12 : Kp Mu H9 H12 := k11.trans (Kp.of s12)
    have xh : x ∉ [h] := fun z => hx2 (by rw [← List.mem_singleton.mp z]; exact List.mem_cons_self)
    have q2h : q2 ∉ [h] := fun z => hx2 (by rw [← List.mem_singleton.mp z]; exact List.mem_cons_of_mem _ List.mem_cons_self)
    have ph : p ∉ [h] := fun z => hp (List.mem_singleton.mp z).symm
    have qh : pq ∉ [h] := fun z => hq (List.mem_singleton.mp z).symm
    have keepS2 : ∀ {H'}, Kp ([x, q2] ++ Mu) H12 H' → SqL K H' a (vis ns) := fun {H'} k => sql_keep hS fun o e => by
      have aM : a ∉ Mu := fun z => by rw [freeMu a z] at e; cases e
      have e11 := k11 _ _ aM (s09 _ _ e)
      refine k _ _ (fun z => ?_) (s12 _ _ e11)
      rcases List.mem_append.mp z with y | y
      · rw [nys a y] at e11; cases e11
      · exact aM y
    obtain ⟨Mu2, hMu2⟩ : ∃ Mu2, [x, q2] ++ Mu = Mu2 := ⟨_, rfl⟩
    rw [hMu2] at pgo pg2 na2 hd2 keepS2
    have hm2 : h ∈ Mu2 := by rw [← hMu2]; exact List.mem_append_right _ hm
    have subH2 : ∀ y ∈ [h], y ∈ Mu2 := fun y hy => by rw [List.mem_singleton.mp hy]; exact hm2
    have subX2 : ∀ y ∈ [x, q2], y ∈ Mu2 := fun y hy => by rw [← hMu2]; exact List.mem_append_left _ hy
    clear pg1 na1 hd1 k11 hS1 nys eys s12 F ep nr nt nq rt rq tq er et eq kx pgx nx ndx nq2
    -- it is empty
    refine ⟨_, rfl, sz (by simp), fun e ne => ?_⟩
    have s13 := (Same.refl H12).new (o := HO.lst []) ne
    have fe : Fz Mu2 (upd H12 e (HO.lst [])) e (.lst (vts [])) := ⟨upd_same, pg2.live.nin ne⟩
    generalize upd H12 e (HO.lst []) = H13 at s13 fe ⊢
    refine ⟨_, rfl, a, ns, 1, rfl, keepS2 (Kp.of s13), _, _, rfl, rfl, (show (0 : Int) < 9 by decide), _, _, rfl, rfl, _, rfl, _, rfl, ?_⟩
    refine ⟨Mu2, x, q2, e, h, ⟨([], 1 + cell ns 1 % 9), []⟩, true, n, 244, rfl, pgo.same s13, hm2, fe, hd2.same s13, by omega, fun H14 k14 hd14 => ⟨true, rfl, iteF ?_⟩⟩
    have kx14 : Kp Mu2 H12 H14 := (Kp.of s13).trans (k14.mono subH2)
    have pgo14 : PgAt C Mu2 H14 x q2 ⟨([], 1 + cell ns 1 % 9), []⟩ := (pgo.same s13).keep k14 subH2 xh q2h hd14.live
    have pg14 : PgAt C Mu2 H14 p pq m := (pg2.same s13).keep k14 subH2 ph qh hd14.live
    have na14 := (na2.same s13).keep k14 subH2
    clear pgo pg2 na2 hd2 k14 s13 fe ne
    -- a word of its own
    obtain ⟨dx2, fs2, r2, t2, e2, F2, row2⟩ := pgo14.ex
    have lk2 : ∀ m : Str, m ≠ ("width" : Str) → m ≠ ("row" : Str) → m ≠ ("table" : Str) → m ≠ ("past" : Str) → fs2.lookup m = none := F2.no
    refine ⟨_, rfl, x, dx2, fs2, rfl, e2, lk2 _ (by decide +kernel) (by decide +kernel) (by decide +kernel) (by decide +kernel), ?_⟩
    rw [lit_a']
    have dp : due (⟨([], 1 + cell ns 1 % 9), []⟩ : Mo) (.put 0 [97]) = 0 := due_put0 ⟨by decide, by simp⟩ ⟨by decide, by decide, by decide⟩ (by simp; omega) (by simp)
    refine args2 ?_
    show sp_Page_put ea C [V.ref x, V.int 0, vt [97]] H14 _ _
    refine put_pg pgo14 (i := 0) (x := [97]) ⟨fun c hc => by rw [List.mem_singleton.mp hc]; decide, by decide⟩ (by simp) dp fun H15 k15 pgo15 => ?_
    refine ⟨rfl, _, rfl, tst (c := False) (by simp) (fun z => z.elim) (fun _ => ?_)⟩
    have pg15 : PgAt C Mu2 H15 p pq m := pg14.keep k15 subX2 px2 qx2 (fun y hy => pgo15.live y (subX2 y hy))
    have na15 := na14.keep k15 subX2
    have hd15 := hd14.keep k15 subX2 hx2
    have kx15 : Kp Mu2 H12 H15 := kx14.trans (k15.mono subX2)
    clear pgo14 pg14 na14 hd14 k15 e2 F2 row2
    refine ⟨_, rfl, sz (by simp), fun e ne => ?_⟩
    have s16 := (Same.refl H15).new (o := HO.lst [V.str (tx [97])]) ne
    have fe : Fz Mu2 (upd H15 e (HO.lst [V.str (tx [97])])) e (.lst (vts [[97]])) := ⟨upd_same, pg15.live.nin ne⟩
    generalize upd H15 e (HO.lst [V.str (tx [97])]) = H16 at s16 fe ⊢
    refine ⟨_, rfl, a, ns, 1, rfl, keepS2 (kx15.trans (Kp.of s16)), _, _, rfl, rfl, (show (0 : Int) < 9 by decide), _, _, rfl, rfl, _, rfl, _, rfl, ?_⟩
    refine ⟨Mu2, x, q2, e, h, _, true, n, 248, rfl, pgo15.same s16, hm2, fe, hd15.same s16, by omega, fun H17 k17 hd17 => ⟨true, rfl, iteF ?_⟩⟩
    have kx17 : Kp Mu2 H12 H17 := (kx15.trans (Kp.of s16)).trans (k17.mono subH2)
    have pg17 : PgAt C Mu2 H17 p pq m := (pg15.same s16).keep k17 subH2 ph qh hd17.live
    have na17 := (na15.same s16).keep k17 subH2
    clear pgo15 pg15 na15 hd15 k17 s16 fe ne
    -- all at the end
    obtain ⟨r, z, en, er, L, ez, eL, hL⟩ := na17.ex
    refine ⟨_, rfl, _, rfl, now, _, ((0 : Nat) : Int), _, rfl, rfl, .of en.1, rfl, _, rfl, now, _, ((1 : Nat) : Int), _, rfl, rfl, .of en.1, rfl, _, rfl, _, rfl, a, ns, 1, rfl, keepS2 kx17, ?_⟩
    refine ⟨Mu2, p, pq, r, h, m, true, cell ns 1, 252, rfl, pg17, hm2, er, hd17, by omega, fun H18 k18 hd18 => ⟨true, rfl, iteF ?_⟩⟩
    -- what is held
    obtain ⟨L, eh, hLl, hL⟩ := hd18.ex
    refine ⟨_, rfl, h, rfl, ⟨_, .of eh⟩, fun D1 nD1 => ?_⟩
    refine lc_list (xs := L.map fun e => V.ref e.1) (fun i H' => Same H18 H' ∧ H' D1 = some (.lst ((L.take i).map fun e => V.ref e.2.1))) ?_ ?_ ?_ ?_
    · exact ⟨(Same.refl _).new nD1, upd_same⟩
    · rintro i H' _ ⟨s, _⟩; exact .of (s _ _ eh)
    · rintro i y H' hy ⟨s, eD⟩
      have hi : i < L.length := by have := (List.getElem?_eq_some_iff.mp hy).1; simpa using this
      rw [flat_get (List.getElem?_eq_getElem hi)] at hy
      cases hy
      have he := hL L[i] (List.getElem_mem hi)
      refine ⟨rfl, ?_⟩
      refine ⟨_, rfl, _, _, ((0 : Nat) : Int), _, rfl, rfl, .of (s _ _ he.1.1), rfl, ?_⟩
      refine ⟨_, eD, by rw [List.length_map, List.length_take]; exact szl (by omega), s.put nD1, ?_⟩
      rw [upd_same, List.take_add_one, List.getElem?_eq_getElem hi, Option.toList_some, List.map_append]; rfl
    rintro H19 ⟨s19, eD1⟩
    rw [List.length_map, List.take_length] at eD1
    refine ⟨_, rfl, h, rfl, ⟨_, .of (s19 _ _ eh)⟩, fun D2 nD2 => ?_⟩
    refine lc_list (xs := L.map fun e => V.ref e.1) (fun i H' => Same H19 H' ∧ H' D2 = some (.lst ((L.take i).map fun e => V.ref e.2.2.1))) ?_ ?_ ?_ ?_
    · exact ⟨(Same.refl _).new nD2, upd_same⟩
    · rintro i H' _ ⟨s, _⟩; exact .of (s _ _ (s19 _ _ eh))
    · rintro i y H' hy ⟨s, eD⟩
      have hi : i < L.length := by have := (List.getElem?_eq_some_iff.mp hy).1; simpa using this
      rw [flat_get (List.getElem?_eq_getElem hi)] at hy
      cases hy
      have he := hL L[i] (List.getElem_mem hi)
      refine ⟨rfl, ?_⟩
      refine ⟨_, rfl, _, _, ((1 : Nat) : Int), _, rfl, rfl, .of (s _ _ (s19 _ _ he.1.1)), rfl, ?_⟩
      refine ⟨_, eD, by rw [List.length_map, List.length_take]; exact szl (by omega), s.put nD2, ?_⟩
      rw [upd_same, List.take_add_one, List.getElem?_eq_getElem hi, Option.toList_some, List.map_append]; rfl
    rintro H20 ⟨s20, eD2⟩
    rw [List.length_map, List.take_length] at eD2
    exact ⟨2, by decide, held_eq (s20 _ _ eD1) eD2 fun e he => ⟨(s19.trans s20) _ _ (hL e he).2.1.1, (s19.trans s20) _ _ (hL e he).2.2.1.1, (hL e he).2.2.2⟩, q _⟩

end
theorem all_mk {P : Program} {w : World} {K : PySem.W.Frag} {mg : Str → Option Value} {fa : Addr} {ea : EA} {C : Addr} {tmw : _} (T : Bts mg) (X : Xs K mg ea)
    (PG : PgC K C) (PM : PgM K mg C) (MW : mg "MOST_WORDS" = some (.int 120 tmw)) (EN : PySem.W.exmOne K (.ref ea.nw) (.ref ea.nw) = some true)
    (A_size_of : At K mg "size_of" ["words", "begin", "end"] st_size_of)
    (A_need_width : At K mg "need_width" ["width"] st_need_width)
    (A_long_word : At K mg "long_word" ["words", "width"] st_long_word)
    (A_need_fits : At K mg "need_fits" ["words", "width"] st_need_fits)
    (A_line_price : At K mg "line_price" ["words", "width", "begin", "end"] st_line_price)
    (A_are_starts : At K mg "are_starts" ["words", "starts"] st_are_starts)
    (A_spans_of : At K mg "spans_of" ["words", "starts"] st_spans_of)
    (A_lines_of : At K mg "lines_of" ["words", "starts"] st_lines_of)
    (A_best_end : At K mg "best_end" ["words", "width", "table", "at"] st_best_end)
    (A_grown : At K mg "grown" ["words", "width", "tail"] st_grown)
    (A_starts_by : At K mg "starts_by" ["words", "width", "table"] st_starts_by)
    (A_is_word : At K mg "is_word" ["text"] st_is_word)
    (A_Page___init__ : AtM K C "__init__" "Page.__init__" ["self", "width"] st_Page___init__)
    (A_Page_keep : AtM K C "keep" "Page.keep" ["self"] st_Page_keep)
    (A_Page_put : AtM K C "put" "Page.put" ["self", "at", "word"] st_Page_put)
    (A_Page_drop : AtM K C "drop" "Page.drop" ["self", "at"] st_Page_drop)
    (A_Page_widen : AtM K C "widen" "Page.widen" ["self", "width"] st_Page_widen)
    (A_Page_undo : AtM K C "undo" "Page.undo" ["self"] st_Page_undo)
    (A_Page_words_now : AtM K C "words_now" "Page.words_now" ["self"] st_Page_words_now)
    (A_Page_width_now : AtM K C "width_now" "Page.width_now" ["self"] st_Page_width_now)
    (A_Page_table_now : AtM K C "table_now" "Page.table_now" ["self"] st_Page_table_now)
    (A_Page_starts_now : AtM K C "starts_now" "Page.starts_now" ["self"] st_Page_starts_now)
    (A_Page_lines_now : AtM K C "lines_now" "Page.lines_now" ["self"] st_Page_lines_now)
    (A__law_cell_at : At K mg "_law_cell_at" ["_law_script", "_law_k"] st__law_cell_at)
    (A__law_sign_by : At K mg "_law_sign_by" ["_law_cell"] st__law_sign_by)
    (A__law_word_by : At K mg "_law_word_by" ["_law_cell"] st__law_word_by)
    (A__law_whole : At K mg "_law_whole" ["_law_found"] st__law_whole)
    (A__law_wholes : At K mg "_law_wholes" ["_law_found"] st__law_wholes)
    (A__law_texts : At K mg "_law_texts" ["_law_found", "_law_due_here"] st__law_texts)
    (A__law_longest : At K mg "_law_longest" ["_law_row"] st__law_longest)
    (A__law_table_right : At K mg "_law_table_right" ["_law_row", "_law_width", "_law_found"] st__law_table_right)
    (A__law_starts_by_table : At K mg "_law_starts_by_table" ["_law_row", "_law_width", "_law_told_here"] st__law_starts_by_table)
    (A__law_page_width : At K mg "_law_page_width" ["_law_cell"] st__law_page_width)
    (A__law_page_by : At K mg "_law_page_by" ["_law_width"] st__law_page_by)
    (A__law_kind : At K mg "_law_kind" ["_law_e"] st__law_kind)
    (A__law_told : At K mg "_law_told" ["_law_page", "_law_deed"] st__law_told)
    (A__law_due : At K mg "_law_due" ["_law_row", "_law_width", "_law_past", "_law_deed"] st__law_due)
    (A__law_alike_by : At K mg "_law_alike_by" ["_law_cell", "_law_size"] st__law_alike_by)
    (A__law_place_by : At K mg "_law_place_by" ["_law_more", "_law_count"] st__law_place_by)
    (A__law_deed_by : At K mg "_law_deed_by" ["_law_cell", "_law_count"] st__law_deed_by)
    (A__law_one_told : At K mg "_law_one_told" ["_law_page", "_law_place"] st__law_one_told)
    (A__law_all_told : At K mg "_law_all_told" ["_law_page", "_law_way"] st__law_all_told)
    (A__law_shows : At K mg "_law_shows" ["_law_row", "_law_width", "_law_told_here", "_law_held"] st__law_shows)
    (A__law_stands : At K mg "_law_stands" ["_law_page", "_law_row", "_law_width", "_law_fully", "_law_held", "_law_way"] st__law_stands)
    (A__law_deeds_by : At K mg "_law_deeds_by" ["_law_cell", "_law_count", "_law_width", "_law_filled"] st__law_deeds_by)
    (A__law_answered : At K mg "_law_answered" ["_law_found", "_law_row", "_law_deed", "_law_due_here"] st__law_answered)
    (A__law_after : At K mg "_law_after" ["_law_row", "_law_width", "_law_past", "_law_deed"] st__law_after)
    (A__law_step : At K mg "_law_step" ["_law_page", "_law_now", "_law_deed"] st__law_step)
    (A__law_made_good : At K mg "_law_made_good" ["_law_due_here", "_law_deed"] st__law_made_good)
    (A_law : LawAt K fa "law" "_law_script" st_law) :
    ∃ fd : FuncData, (∀ (s : Shared) (v : Value), BindsTo s fd ⟨[v], []⟩ [("_law_script", v)]) ∧ ∀ base : Heap, K.In base → base.Ns mainGlobals mg → FnOk P w K mg base CX0 10 fa fd ["_law_script"] (sp_law K) := by
  obtain ⟨fd, hb, F⟩ := A_law.ex
  refine ⟨fd, hb, fun base _ _ => ?_⟩
  have O_size_of := ok_size_of (P := P) (w := w) (base := base) A_size_of T
  have O_need_width := ok_need_width (P := P) (w := w) (base := base) A_need_width T X
  have O_long_word := ok_long_word (P := P) (w := w) (base := base) A_long_word T X O_need_width
  have O_need_fits := ok_need_fits (P := P) (w := w) (base := base) A_need_fits T X O_long_word
  have O_line_price := ok_line_price (P := P) (w := w) (base := base) A_line_price T O_size_of
  have O_are_starts := ok_are_starts (P := P) (w := w) (base := base) A_are_starts T
  have O_spans_of := ok_spans_of (P := P) (w := w) (base := base) A_spans_of T X O_are_starts
  have O_lines_of := ok_lines_of (P := P) (w := w) (base := base) A_lines_of T X O_spans_of
  have O_best_end := ok_best_end (P := P) (w := w) (base := base) A_best_end T O_line_price
  have O_grown := ok_grown (P := P) (w := w) (base := base) A_grown T O_line_price O_best_end
  have O_starts_by := ok_starts_by (P := P) (w := w) (base := base) A_starts_by T O_best_end
  have O_is_word := ok_is_word (P := P) (w := w) (base := base) A_is_word T
  have O_Page___init__ := ok_Page___init__ (P := P) (w := w) (base := base) A_Page___init__ T PG O_need_width
  have O_Page_keep := ok_Page_keep (P := P) (w := w) (base := base) A_Page_keep T PG
  have O_Page_put := ok_Page_put (P := P) (w := w) (base := base) A_Page_put T X PG MW O_is_word O_grown O_Page_keep
  have O_Page_drop := ok_Page_drop (P := P) (w := w) (base := base) A_Page_drop T X PG O_grown O_Page_keep
  have O_Page_widen := ok_Page_widen (P := P) (w := w) (base := base) A_Page_widen T PG O_need_fits O_grown O_Page_keep
  have O_Page_undo := ok_Page_undo (P := P) (w := w) (base := base) A_Page_undo T X PG
  have O_Page_words_now := ok_Page_words_now (P := P) (w := w) (base := base) A_Page_words_now T PG
  have O_Page_width_now := ok_Page_width_now (P := P) (w := w) (base := base) A_Page_width_now T PG
  have O_Page_table_now := ok_Page_table_now (P := P) (w := w) (base := base) A_Page_table_now T PG
  have O_Page_starts_now := ok_Page_starts_now (P := P) (w := w) (base := base) A_Page_starts_now T PG O_starts_by
  have O_Page_lines_now := ok_Page_lines_now (P := P) (w := w) (base := base) A_Page_lines_now T PG O_lines_of O_Page_starts_now
  have O__law_cell_at := ok__law_cell_at (P := P) (w := w) (base := base) A__law_cell_at T
  have O__law_sign_by := ok__law_sign_by (P := P) (w := w) (base := base) A__law_sign_by T
  have O__law_word_by := ok__law_word_by (P := P) (w := w) (base := base) A__law_word_by T O__law_sign_by
  have O__law_whole := ok__law_whole (P := P) (w := w) (base := base) A__law_whole T
  have O__law_wholes := ok__law_wholes (P := P) (w := w) (base := base) A__law_wholes T O__law_whole
  have O__law_texts := ok__law_texts (P := P) (w := w) (base := base) A__law_texts T
  have O__law_longest := ok__law_longest (P := P) (w := w) (base := base) A__law_longest T
  have O__law_table_right := ok__law_table_right (P := P) (w := w) (base := base) A__law_table_right T O__law_wholes
  have O__law_starts_by_table := ok__law_starts_by_table (P := P) (w := w) (base := base) A__law_starts_by_table T
  have O__law_page_width := ok__law_page_width (P := P) (w := w) (base := base) A__law_page_width T
  have O__law_page_by := ok__law_page_by (P := P) (w := w) (base := base) A__law_page_by T X PM EN O_Page___init__
  have O__law_kind := ok__law_kind (P := P) (w := w) (base := base) A__law_kind T X
  have O__law_told := ok__law_told (P := P) (w := w) (base := base) A__law_told T X PG O__law_kind O_Page_put O_Page_drop O_Page_widen O_Page_undo
  have O__law_due := ok__law_due (P := P) (w := w) (base := base) A__law_due T O__law_longest
  have O__law_alike_by := ok__law_alike_by (P := P) (w := w) (base := base) A__law_alike_by T O__law_sign_by
  have O__law_place_by := ok__law_place_by (P := P) (w := w) (base := base) A__law_place_by T
  have O__law_deed_by := ok__law_deed_by (P := P) (w := w) (base := base) A__law_deed_by T O__law_word_by O__law_alike_by O__law_place_by
  have O__law_one_told := ok__law_one_told (P := P) (w := w) (base := base) A__law_one_told T PG O_Page_width_now O_Page_words_now O_Page_table_now O_Page_starts_now O_Page_lines_now
  have O__law_all_told := ok__law_all_told (P := P) (w := w) (base := base) A__law_all_told T O__law_one_told
  have O__law_shows := ok__law_shows (P := P) (w := w) (base := base) A__law_shows T O__law_wholes O__law_texts O__law_table_right O__law_starts_by_table
  have O__law_stands := ok__law_stands (P := P) (w := w) (base := base) A__law_stands T PG O__law_whole O__law_texts O__law_all_told O__law_shows O_Page_width_now O_Page_words_now
  have O__law_deeds_by := ok__law_deeds_by (P := P) (w := w) (base := base) A__law_deeds_by T O__law_sign_by O__law_deed_by
  have O__law_answered := ok__law_answered (P := P) (w := w) (base := base) A__law_answered T O__law_whole
  have O__law_after := ok__law_after (P := P) (w := w) (base := base) A__law_after T
  have O__law_step := ok__law_step (P := P) (w := w) (base := base) A__law_step T O__law_due O__law_told O__law_answered O__law_after
  have O__law_made_good := ok__law_made_good (P := P) (w := w) (base := base) A__law_made_good T
  refine F.ok sc_law (fun vs H Q E h => ?_) (fun cdv A outer s H vs Q E hr h => body_law T X PG PM MW O__law_cell_at O__law_page_width O__law_page_by O__law_due O__law_stands O__law_deeds_by O__law_step O__law_made_good O_Page___init__ O_Page_put O_Page_words_now O_Page_table_now O_Page_starts_now O_Page_lines_now fa cdv A outer s H vs Q E hr h)
  obtain ⟨a, ns, rfl, _⟩ := h; rfl
end Tw
open PySem PySem.W PyProof.Rows
set_option maxHeartbeats 0 in
theorem PySem.Challenge.cw_textwrapper_k14_whole_page_kept_holds : PySem.Challenge.rw_textwrapper_k14_whole_page_kept.Holds := by
  w_on; o_law; k_head; (case hw => w_witness2)
  k_fill
  refine L2.walk_of (l := PySem.Challenge.rw_textwrapper_k14_whole_page_kept) (n := 63) (k := 10) (x := "_law_script") (CX := fun _ => L2.CX0) (sp := fun w => Tw.sp_law _) rfl (by decide) rfl ⟨rfl, by decide, by decide⟩ (fun w h Y => PySem.W.kIn_of Y) ?F (fun _ _ a ns hl _ hS => ⟨a, ns, rfl, hS, hl, fun _ => rfl⟩) (fun _ _ _ _ _ h => h)
  case F =>
    intro w mg fa h KX G hmg
    refine' Tw.all_mk ?T ?X ?PG ?PM ?MW ?EN ?A_size_of ?A_need_width ?A_long_word ?A_need_fits ?A_line_price ?A_are_starts ?A_spans_of ?A_lines_of ?A_best_end ?A_grown ?A_starts_by ?A_is_word ?A_Page___init__ ?A_Page_keep ?A_Page_put ?A_Page_drop ?A_Page_widen ?A_Page_undo ?A_Page_words_now ?A_Page_width_now ?A_Page_table_now ?A_Page_starts_now ?A_Page_lines_now ?A__law_cell_at ?A__law_sign_by ?A__law_word_by ?A__law_whole ?A__law_wholes ?A__law_texts ?A__law_longest ?A__law_table_right ?A__law_starts_by_table ?A__law_page_width ?A__law_page_by ?A__law_kind ?A__law_told ?A__law_due ?A__law_alike_by ?A__law_place_by ?A__law_deed_by ?A__law_one_told ?A__law_all_told ?A__law_shows ?A__law_stands ?A__law_deeds_by ?A__law_answered ?A__law_after ?A__law_step ?A__law_made_good ?A_law
    case T =>
      refine' Tw.bts_mk KX G ?z1 ?z2 ?z3 ?z4 ?z5 ?z6 ?z7 ?z8 ?z9 ?z10 ?z11 ?z12
      (case z1 => k_is); (case z2 => k_is); (case z3 => k_is); (case z4 => k_is); (case z5 => k_is); (case z6 => k_is); (case z7 => k_is); (case z8 => k_is); (case z9 => k_is); (case z10 => k_is); (case z11 => k_is); (case z12 => k_is)
    case X =>
      refine' Tw.xs_mk KX G ?w ?c0 ?c1 ?c2 ?c3 ?c4 ?c5 ?c6 ?c7 ?c8 ?c9 ?d0 ?d1 ?d2 ?d3 ?d4 ?d5 ?d6 ?d7 ?d8 ?d9
      (case w => k_is)
      case c0 =>
        refine' Tw.xc_mk KX G ?a ?ex ?kp ?b ?t ?m1 ?m2 ?m3 ?m4 ?ve ?wc ?g1 ?g2 ?g4 ?g5 ?g6 ?g7 ?g8
        (case a => k_is); (case ex => k_exc); (case kp => k_is); (case b => k_is); (case t => k_is); (case m1 => k_is); (case m2 => k_is); (case m3 => k_is); (case m4 => k_is); (case ve => k_is); (case wc => exact Tw.cls_some (by k_is)); (case g1 => k_is); (case g2 => k_is); (case g4 => k_is); (case g5 => k_is); (case g6 => k_is); (case g7 => k_is); (case g8 => k_is)
      case c1 =>
        refine' Tw.xc_mk KX G ?a ?ex ?kp ?b ?t ?m1 ?m2 ?m3 ?m4 ?ve ?wc ?g1 ?g2 ?g4 ?g5 ?g6 ?g7 ?g8
        (case a => k_is); (case ex => k_exc); (case kp => k_is); (case b => k_is); (case t => k_is); (case m1 => k_is); (case m2 => k_is); (case m3 => k_is); (case m4 => k_is); (case ve => k_is); (case wc => exact Tw.cls_some (by k_is)); (case g1 => k_is); (case g2 => k_is); (case g4 => k_is); (case g5 => k_is); (case g6 => k_is); (case g7 => k_is); (case g8 => k_is)
      case c2 =>
        refine' Tw.xc_mk KX G ?a ?ex ?kp ?b ?t ?m1 ?m2 ?m3 ?m4 ?ve ?wc ?g1 ?g2 ?g4 ?g5 ?g6 ?g7 ?g8
        (case a => k_is); (case ex => k_exc); (case kp => k_is); (case b => k_is); (case t => k_is); (case m1 => k_is); (case m2 => k_is); (case m3 => k_is); (case m4 => k_is); (case ve => k_is); (case wc => exact Tw.cls_some (by k_is)); (case g1 => k_is); (case g2 => k_is); (case g4 => k_is); (case g5 => k_is); (case g6 => k_is); (case g7 => k_is); (case g8 => k_is)
      case c3 =>
        refine' Tw.xc_mk KX G ?a ?ex ?kp ?b ?t ?m1 ?m2 ?m3 ?m4 ?ve ?wc ?g1 ?g2 ?g4 ?g5 ?g6 ?g7 ?g8
        (case a => k_is); (case ex => k_exc); (case kp => k_is); (case b => k_is); (case t => k_is); (case m1 => k_is); (case m2 => k_is); (case m3 => k_is); (case m4 => k_is); (case ve => k_is); (case wc => exact Tw.cls_some (by k_is)); (case g1 => k_is); (case g2 => k_is); (case g4 => k_is); (case g5 => k_is); (case g6 => k_is); (case g7 => k_is); (case g8 => k_is)
      case c4 =>
        refine' Tw.xc_mk KX G ?a ?ex ?kp ?b ?t ?m1 ?m2 ?m3 ?m4 ?ve ?wc ?g1 ?g2 ?g4 ?g5 ?g6 ?g7 ?g8
        (case a => k_is); (case ex => k_exc); (case kp => k_is); (case b => k_is); (case t => k_is); (case m1 => k_is); (case m2 => k_is); (case m3 => k_is); (case m4 => k_is); (case ve => k_is); (case wc => exact Tw.cls_some (by k_is)); (case g1 => k_is); (case g2 => k_is); (case g4 => k_is); (case g5 => k_is); (case g6 => k_is); (case g7 => k_is); (case g8 => k_is)
      case c5 =>
        refine' Tw.xc_mk KX G ?a ?ex ?kp ?b ?t ?m1 ?m2 ?m3 ?m4 ?ve ?wc ?g1 ?g2 ?g4 ?g5 ?g6 ?g7 ?g8
        (case a => k_is); (case ex => k_exc); (case kp => k_is); (case b => k_is); (case t => k_is); (case m1 => k_is); (case m2 => k_is); (case m3 => k_is); (case m4 => k_is); (case ve => k_is); (case wc => exact Tw.cls_some (by k_is)); (case g1 => k_is); (case g2 => k_is); (case g4 => k_is); (case g5 => k_is); (case g6 => k_is); (case g7 => k_is); (case g8 => k_is)
      case c6 =>
        refine' Tw.xc_mk KX G ?a ?ex ?kp ?b ?t ?m1 ?m2 ?m3 ?m4 ?ve ?wc ?g1 ?g2 ?g4 ?g5 ?g6 ?g7 ?g8
        (case a => k_is); (case ex => k_exc); (case kp => k_is); (case b => k_is); (case t => k_is); (case m1 => k_is); (case m2 => k_is); (case m3 => k_is); (case m4 => k_is); (case ve => k_is); (case wc => exact Tw.cls_some (by k_is)); (case g1 => k_is); (case g2 => k_is); (case g4 => k_is); (case g5 => k_is); (case g6 => k_is); (case g7 => k_is); (case g8 => k_is)
      case c7 =>
        refine' Tw.xc_mk KX G ?a ?ex ?kp ?b ?t ?m1 ?m2 ?m3 ?m4 ?ve ?wc ?g1 ?g2 ?g4 ?g5 ?g6 ?g7 ?g8
        (case a => k_is); (case ex => k_exc); (case kp => k_is); (case b => k_is); (case t => k_is); (case m1 => k_is); (case m2 => k_is); (case m3 => k_is); (case m4 => k_is); (case ve => k_is); (case wc => exact Tw.cls_some (by k_is)); (case g1 => k_is); (case g2 => k_is); (case g4 => k_is); (case g5 => k_is); (case g6 => k_is); (case g7 => k_is); (case g8 => k_is)
      case c8 =>
        refine' Tw.xc_mk KX G ?a ?ex ?kp ?b ?t ?m1 ?m2 ?m3 ?m4 ?ve ?wc ?g1 ?g2 ?g4 ?g5 ?g6 ?g7 ?g8
        (case a => k_is); (case ex => k_exc); (case kp => k_is); (case b => k_is); (case t => k_is); (case m1 => k_is); (case m2 => k_is); (case m3 => k_is); (case m4 => k_is); (case ve => k_is); (case wc => exact Tw.cls_some (by k_is)); (case g1 => k_is); (case g2 => k_is); (case g4 => k_is); (case g5 => k_is); (case g6 => k_is); (case g7 => k_is); (case g8 => k_is)
      case c9 =>
        refine' Tw.xc_mk KX G ?a ?ex ?kp ?b ?t ?m1 ?m2 ?m3 ?m4 ?ve ?wc ?g1 ?g2 ?g4 ?g5 ?g6 ?g7 ?g8
        (case a => k_is); (case ex => k_exc); (case kp => k_is); (case b => k_is); (case t => k_is); (case m1 => k_is); (case m2 => k_is); (case m3 => k_is); (case m4 => k_is); (case ve => k_is); (case wc => exact Tw.cls_some (by k_is)); (case g1 => k_is); (case g2 => k_is); (case g4 => k_is); (case g5 => k_is); (case g6 => k_is); (case g7 => k_is); (case g8 => k_is)
      case d0 =>
        refine' Tw.Sd.mk ?k0 ?k1 ?k2 ?k3 ?k4 ?k5 ?k6 ?k7 ?k8 ?k9
        (case k0 => k_is); (case k1 => k_is); (case k2 => k_is); (case k3 => k_is); (case k4 => k_is); (case k5 => k_is); (case k6 => k_is); (case k7 => k_is); (case k8 => k_is); (case k9 => k_is)
      case d1 =>
        refine' Tw.Sd.mk ?k0 ?k1 ?k2 ?k3 ?k4 ?k5 ?k6 ?k7 ?k8 ?k9
        (case k0 => k_is); (case k1 => k_is); (case k2 => k_is); (case k3 => k_is); (case k4 => k_is); (case k5 => k_is); (case k6 => k_is); (case k7 => k_is); (case k8 => k_is); (case k9 => k_is)
      case d2 =>
        refine' Tw.Sd.mk ?k0 ?k1 ?k2 ?k3 ?k4 ?k5 ?k6 ?k7 ?k8 ?k9
        (case k0 => k_is); (case k1 => k_is); (case k2 => k_is); (case k3 => k_is); (case k4 => k_is); (case k5 => k_is); (case k6 => k_is); (case k7 => k_is); (case k8 => k_is); (case k9 => k_is)
      case d3 =>
        refine' Tw.Sd.mk ?k0 ?k1 ?k2 ?k3 ?k4 ?k5 ?k6 ?k7 ?k8 ?k9
        (case k0 => k_is); (case k1 => k_is); (case k2 => k_is); (case k3 => k_is); (case k4 => k_is); (case k5 => k_is); (case k6 => k_is); (case k7 => k_is); (case k8 => k_is); (case k9 => k_is)
      case d4 =>
        refine' Tw.Sd.mk ?k0 ?k1 ?k2 ?k3 ?k4 ?k5 ?k6 ?k7 ?k8 ?k9
        (case k0 => k_is); (case k1 => k_is); (case k2 => k_is); (case k3 => k_is); (case k4 => k_is); (case k5 => k_is); (case k6 => k_is); (case k7 => k_is); (case k8 => k_is); (case k9 => k_is)
      case d5 =>
        refine' Tw.Sd.mk ?k0 ?k1 ?k2 ?k3 ?k4 ?k5 ?k6 ?k7 ?k8 ?k9
        (case k0 => k_is); (case k1 => k_is); (case k2 => k_is); (case k3 => k_is); (case k4 => k_is); (case k5 => k_is); (case k6 => k_is); (case k7 => k_is); (case k8 => k_is); (case k9 => k_is)
      case d6 =>
        refine' Tw.Sd.mk ?k0 ?k1 ?k2 ?k3 ?k4 ?k5 ?k6 ?k7 ?k8 ?k9
        (case k0 => k_is); (case k1 => k_is); (case k2 => k_is); (case k3 => k_is); (case k4 => k_is); (case k5 => k_is); (case k6 => k_is); (case k7 => k_is); (case k8 => k_is); (case k9 => k_is)
      case d7 =>
        refine' Tw.Sd.mk ?k0 ?k1 ?k2 ?k3 ?k4 ?k5 ?k6 ?k7 ?k8 ?k9
        (case k0 => k_is); (case k1 => k_is); (case k2 => k_is); (case k3 => k_is); (case k4 => k_is); (case k5 => k_is); (case k6 => k_is); (case k7 => k_is); (case k8 => k_is); (case k9 => k_is)
      case d8 =>
        refine' Tw.Sd.mk ?k0 ?k1 ?k2 ?k3 ?k4 ?k5 ?k6 ?k7 ?k8 ?k9
        (case k0 => k_is); (case k1 => k_is); (case k2 => k_is); (case k3 => k_is); (case k4 => k_is); (case k5 => k_is); (case k6 => k_is); (case k7 => k_is); (case k8 => k_is); (case k9 => k_is)
      case d9 =>
        refine' Tw.Sd.mk ?k0 ?k1 ?k2 ?k3 ?k4 ?k5 ?k6 ?k7 ?k8 ?k9
        (case k0 => k_is); (case k1 => k_is); (case k2 => k_is); (case k3 => k_is); (case k4 => k_is); (case k5 => k_is); (case k6 => k_is); (case k7 => k_is); (case k8 => k_is); (case k9 => k_is)
    case PM =>
      refine' Tw.pgm_mk KX G ?a ?mk ?it ?fn ?kp ?pc ?ha ?hn ?htk ?hm ?wc ?t ?s
      (case a => k_is); (case mk => k_is); (case it => k_is); (case fn => k_is); (case kp => k_is)
      case pc =>
        refine' Tw.pgc_mk ?pg ?hd ?po ?sa ?nw ?nr ?nt ?np
        (case pg => k_is); (case hd => k_is); (case po => k_is); (case sa => k_is); (case nw => k_is); (case nr => k_is); (case nt => k_is); (case np => k_is)
      (case ha => k_is); (case hn => k_is); (case htk => k_is); (case hm => k_is); (case wc => exact Tw.cls_some (by k_is)); (case t => k_is); (case s => first | rfl | k_is)
    case PG =>
      refine' Tw.pgc_mk ?pg ?hd ?po ?sa ?nw ?nr ?nt ?np
      (case pg => k_is); (case hd => k_is); (case po => k_is); (case sa => k_is); (case nw => k_is); (case nr => k_is); (case nt => k_is); (case np => k_is)
    case MW =>
      refine' PySem.W.mg_of KX G ?a
      (case a => k_is)
    case EN =>
      refine' PySem.W.exm_ref ?m1 ?m2 ?m3 ?m4
      (case m1 => k_is); (case m2 => k_is); (case m3 => k_is); (case m4 => first | rfl | k_is)
    case A_size_of =>
      refine' Tw.at_mk KX G ?a ?l ?c ?k ?b
      (case a => k_is); (case l => k_is); (case c => k_is); (case k => k_is)
      (case b => exact fun _ _ _ _ _ _ us hl => match us, hl with | [_, _, _], _ => rfl)
    case A_need_width =>
      refine' Tw.at_mk KX G ?a ?l ?c ?k ?b
      (case a => k_is); (case l => k_is); (case c => k_is); (case k => k_is)
      (case b => exact fun _ _ _ _ _ _ us hl => match us, hl with | [_], _ => rfl)
    case A_long_word =>
      refine' Tw.at_mk KX G ?a ?l ?c ?k ?b
      (case a => k_is); (case l => k_is); (case c => k_is); (case k => k_is)
      (case b => exact fun _ _ _ _ _ _ us hl => match us, hl with | [_, _], _ => rfl)
    case A_need_fits =>
      refine' Tw.at_mk KX G ?a ?l ?c ?k ?b
      (case a => k_is); (case l => k_is); (case c => k_is); (case k => k_is)
      (case b => exact fun _ _ _ _ _ _ us hl => match us, hl with | [_, _], _ => rfl)
    case A_line_price =>
      refine' Tw.at_mk KX G ?a ?l ?c ?k ?b
      (case a => k_is); (case l => k_is); (case c => k_is); (case k => k_is)
      (case b => exact fun _ _ _ _ _ _ us hl => match us, hl with | [_, _, _, _], _ => rfl)
    case A_are_starts =>
      refine' Tw.at_mk KX G ?a ?l ?c ?k ?b
      (case a => k_is); (case l => k_is); (case c => k_is); (case k => k_is)
      (case b => exact fun _ _ _ _ _ _ us hl => match us, hl with | [_, _], _ => rfl)
    case A_spans_of =>
      refine' Tw.at_mk KX G ?a ?l ?c ?k ?b
      (case a => k_is); (case l => k_is); (case c => k_is); (case k => k_is)
      (case b => exact fun _ _ _ _ _ _ us hl => match us, hl with | [_, _], _ => rfl)
    case A_lines_of =>
      refine' Tw.at_mk KX G ?a ?l ?c ?k ?b
      (case a => k_is); (case l => k_is); (case c => k_is); (case k => k_is)
      (case b => exact fun _ _ _ _ _ _ us hl => match us, hl with | [_, _], _ => rfl)
    case A_best_end =>
      refine' Tw.at_mk KX G ?a ?l ?c ?k ?b
      (case a => k_is); (case l => k_is); (case c => k_is); (case k => k_is)
      (case b => exact fun _ _ _ _ _ _ us hl => match us, hl with | [_, _, _, _], _ => rfl)
    case A_grown =>
      refine' Tw.at_mk KX G ?a ?l ?c ?k ?b
      (case a => k_is); (case l => k_is); (case c => k_is); (case k => k_is)
      (case b => exact fun _ _ _ _ _ _ us hl => match us, hl with | [_, _, _], _ => rfl)
    case A_starts_by =>
      refine' Tw.at_mk KX G ?a ?l ?c ?k ?b
      (case a => k_is); (case l => k_is); (case c => k_is); (case k => k_is)
      (case b => exact fun _ _ _ _ _ _ us hl => match us, hl with | [_, _, _], _ => rfl)
    case A_is_word =>
      refine' Tw.at_mk KX G ?a ?l ?c ?k ?b
      (case a => k_is); (case l => k_is); (case c => k_is); (case k => k_is)
      (case b => exact fun _ _ _ _ _ _ us hl => match us, hl with | [_], _ => rfl)
    case A_Page___init__ =>
      refine' Tw.atm_mk ?a ?i ?l ?c ?k ?b
      (case a => k_is); (case i => k_is); (case l => k_is); (case c => k_is); (case k => k_is)
      (case b => exact fun _ _ _ _ _ _ us hl => match us, hl with | [_, _], _ => rfl)
    case A_Page_keep =>
      refine' Tw.atm_mk ?a ?i ?l ?c ?k ?b
      (case a => k_is); (case i => k_is); (case l => k_is); (case c => k_is); (case k => k_is)
      (case b => exact fun _ _ _ _ _ _ us hl => match us, hl with | [_], _ => rfl)
    case A_Page_put =>
      refine' Tw.atm_mk ?a ?i ?l ?c ?k ?b
      (case a => k_is); (case i => k_is); (case l => k_is); (case c => k_is); (case k => k_is)
      (case b => exact fun _ _ _ _ _ _ us hl => match us, hl with | [_, _, _], _ => rfl)
    case A_Page_drop =>
      refine' Tw.atm_mk ?a ?i ?l ?c ?k ?b
      (case a => k_is); (case i => k_is); (case l => k_is); (case c => k_is); (case k => k_is)
      (case b => exact fun _ _ _ _ _ _ us hl => match us, hl with | [_, _], _ => rfl)
    case A_Page_widen =>
      refine' Tw.atm_mk ?a ?i ?l ?c ?k ?b
      (case a => k_is); (case i => k_is); (case l => k_is); (case c => k_is); (case k => k_is)
      (case b => exact fun _ _ _ _ _ _ us hl => match us, hl with | [_, _], _ => rfl)
    case A_Page_undo =>
      refine' Tw.atm_mk ?a ?i ?l ?c ?k ?b
      (case a => k_is); (case i => k_is); (case l => k_is); (case c => k_is); (case k => k_is)
      (case b => exact fun _ _ _ _ _ _ us hl => match us, hl with | [_], _ => rfl)
    case A_Page_words_now =>
      refine' Tw.atm_mk ?a ?i ?l ?c ?k ?b
      (case a => k_is); (case i => k_is); (case l => k_is); (case c => k_is); (case k => k_is)
      (case b => exact fun _ _ _ _ _ _ us hl => match us, hl with | [_], _ => rfl)
    case A_Page_width_now =>
      refine' Tw.atm_mk ?a ?i ?l ?c ?k ?b
      (case a => k_is); (case i => k_is); (case l => k_is); (case c => k_is); (case k => k_is)
      (case b => exact fun _ _ _ _ _ _ us hl => match us, hl with | [_], _ => rfl)
    case A_Page_table_now =>
      refine' Tw.atm_mk ?a ?i ?l ?c ?k ?b
      (case a => k_is); (case i => k_is); (case l => k_is); (case c => k_is); (case k => k_is)
      (case b => exact fun _ _ _ _ _ _ us hl => match us, hl with | [_], _ => rfl)
    case A_Page_starts_now =>
      refine' Tw.atm_mk ?a ?i ?l ?c ?k ?b
      (case a => k_is); (case i => k_is); (case l => k_is); (case c => k_is); (case k => k_is)
      (case b => exact fun _ _ _ _ _ _ us hl => match us, hl with | [_], _ => rfl)
    case A_Page_lines_now =>
      refine' Tw.atm_mk ?a ?i ?l ?c ?k ?b
      (case a => k_is); (case i => k_is); (case l => k_is); (case c => k_is); (case k => k_is)
      (case b => exact fun _ _ _ _ _ _ us hl => match us, hl with | [_], _ => rfl)
    case A__law_cell_at =>
      refine' Tw.at_mk KX G ?a ?l ?c ?k ?b
      (case a => k_is); (case l => k_is); (case c => k_is); (case k => k_is)
      (case b => exact fun _ _ _ _ _ _ us hl => match us, hl with | [_, _], _ => rfl)
    case A__law_sign_by =>
      refine' Tw.at_mk KX G ?a ?l ?c ?k ?b
      (case a => k_is); (case l => k_is); (case c => k_is); (case k => k_is)
      (case b => exact fun _ _ _ _ _ _ us hl => match us, hl with | [_], _ => rfl)
    case A__law_word_by =>
      refine' Tw.at_mk KX G ?a ?l ?c ?k ?b
      (case a => k_is); (case l => k_is); (case c => k_is); (case k => k_is)
      (case b => exact fun _ _ _ _ _ _ us hl => match us, hl with | [_], _ => rfl)
    case A__law_whole =>
      refine' Tw.at_mk KX G ?a ?l ?c ?k ?b
      (case a => k_is); (case l => k_is); (case c => k_is); (case k => k_is)
      (case b => exact fun _ _ _ _ _ _ us hl => match us, hl with | [_], _ => rfl)
    case A__law_wholes =>
      refine' Tw.at_mk KX G ?a ?l ?c ?k ?b
      (case a => k_is); (case l => k_is); (case c => k_is); (case k => k_is)
      (case b => exact fun _ _ _ _ _ _ us hl => match us, hl with | [_], _ => rfl)
    case A__law_texts =>
      refine' Tw.at_mk KX G ?a ?l ?c ?k ?b
      (case a => k_is); (case l => k_is); (case c => k_is); (case k => k_is)
      (case b => exact fun _ _ _ _ _ _ us hl => match us, hl with | [_, _], _ => rfl)
    case A__law_longest =>
      refine' Tw.at_mk KX G ?a ?l ?c ?k ?b
      (case a => k_is); (case l => k_is); (case c => k_is); (case k => k_is)
      (case b => exact fun _ _ _ _ _ _ us hl => match us, hl with | [_], _ => rfl)
    case A__law_table_right =>
      refine' Tw.at_mk KX G ?a ?l ?c ?k ?b
      (case a => k_is); (case l => k_is); (case c => k_is); (case k => k_is)
      (case b => exact fun _ _ _ _ _ _ us hl => match us, hl with | [_, _, _], _ => rfl)
    case A__law_starts_by_table =>
      refine' Tw.at_mk KX G ?a ?l ?c ?k ?b
      (case a => k_is); (case l => k_is); (case c => k_is); (case k => k_is)
      (case b => exact fun _ _ _ _ _ _ us hl => match us, hl with | [_, _, _], _ => rfl)
    case A__law_page_width =>
      refine' Tw.at_mk KX G ?a ?l ?c ?k ?b
      (case a => k_is); (case l => k_is); (case c => k_is); (case k => k_is)
      (case b => exact fun _ _ _ _ _ _ us hl => match us, hl with | [_], _ => rfl)
    case A__law_page_by =>
      refine' Tw.at_mk KX G ?a ?l ?c ?k ?b
      (case a => k_is); (case l => k_is); (case c => k_is); (case k => k_is)
      (case b => exact fun _ _ _ _ _ _ us hl => match us, hl with | [_], _ => rfl)
    case A__law_kind =>
      refine' Tw.at_mk KX G ?a ?l ?c ?k ?b
      (case a => k_is); (case l => k_is); (case c => k_is); (case k => k_is)
      (case b => exact fun _ _ _ _ _ _ us hl => match us, hl with | [_], _ => rfl)
    case A__law_told =>
      refine' Tw.at_mk KX G ?a ?l ?c ?k ?b
      (case a => k_is); (case l => k_is); (case c => k_is); (case k => k_is)
      (case b => exact fun _ _ _ _ _ _ us hl => match us, hl with | [_, _], _ => rfl)
    case A__law_due =>
      refine' Tw.at_mk KX G ?a ?l ?c ?k ?b
      (case a => k_is); (case l => k_is); (case c => k_is); (case k => k_is)
      (case b => exact fun _ _ _ _ _ _ us hl => match us, hl with | [_, _, _, _], _ => rfl)
    case A__law_alike_by =>
      refine' Tw.at_mk KX G ?a ?l ?c ?k ?b
      (case a => k_is); (case l => k_is); (case c => k_is); (case k => k_is)
      (case b => exact fun _ _ _ _ _ _ us hl => match us, hl with | [_, _], _ => rfl)
    case A__law_place_by =>
      refine' Tw.at_mk KX G ?a ?l ?c ?k ?b
      (case a => k_is); (case l => k_is); (case c => k_is); (case k => k_is)
      (case b => exact fun _ _ _ _ _ _ us hl => match us, hl with | [_, _], _ => rfl)
    case A__law_deed_by =>
      refine' Tw.at_mk KX G ?a ?l ?c ?k ?b
      (case a => k_is); (case l => k_is); (case c => k_is); (case k => k_is)
      (case b => exact fun _ _ _ _ _ _ us hl => match us, hl with | [_, _], _ => rfl)
    case A__law_one_told =>
      refine' Tw.at_mk KX G ?a ?l ?c ?k ?b
      (case a => k_is); (case l => k_is); (case c => k_is); (case k => k_is)
      (case b => exact fun _ _ _ _ _ _ us hl => match us, hl with | [_, _], _ => rfl)
    case A__law_all_told =>
      refine' Tw.at_mk KX G ?a ?l ?c ?k ?b
      (case a => k_is); (case l => k_is); (case c => k_is); (case k => k_is)
      (case b => exact fun _ _ _ _ _ _ us hl => match us, hl with | [_, _], _ => rfl)
    case A__law_shows =>
      refine' Tw.at_mk KX G ?a ?l ?c ?k ?b
      (case a => k_is); (case l => k_is); (case c => k_is); (case k => k_is)
      (case b => exact fun _ _ _ _ _ _ us hl => match us, hl with | [_, _, _, _], _ => rfl)
    case A__law_stands =>
      refine' Tw.at_mk KX G ?a ?l ?c ?k ?b
      (case a => k_is); (case l => k_is); (case c => k_is); (case k => k_is)
      (case b => exact fun _ _ _ _ _ _ us hl => match us, hl with | [_, _, _, _, _, _], _ => rfl)
    case A__law_deeds_by =>
      refine' Tw.at_mk KX G ?a ?l ?c ?k ?b
      (case a => k_is); (case l => k_is); (case c => k_is); (case k => k_is)
      (case b => exact fun _ _ _ _ _ _ us hl => match us, hl with | [_, _, _, _], _ => rfl)
    case A__law_answered =>
      refine' Tw.at_mk KX G ?a ?l ?c ?k ?b
      (case a => k_is); (case l => k_is); (case c => k_is); (case k => k_is)
      (case b => exact fun _ _ _ _ _ _ us hl => match us, hl with | [_, _, _, _], _ => rfl)
    case A__law_after =>
      refine' Tw.at_mk KX G ?a ?l ?c ?k ?b
      (case a => k_is); (case l => k_is); (case c => k_is); (case k => k_is)
      (case b => exact fun _ _ _ _ _ _ us hl => match us, hl with | [_, _, _, _], _ => rfl)
    case A__law_step =>
      refine' Tw.at_mk KX G ?a ?l ?c ?k ?b
      (case a => k_is); (case l => k_is); (case c => k_is); (case k => k_is)
      (case b => exact fun _ _ _ _ _ _ us hl => match us, hl with | [_, _, _], _ => rfl)
    case A__law_made_good =>
      refine' Tw.at_mk KX G ?a ?l ?c ?k ?b
      (case a => k_is); (case l => k_is); (case c => k_is); (case k => k_is)
      (case b => exact fun _ _ _ _ _ _ us hl => match us, hl with | [_, _], _ => rfl)
    case A_law =>
      refine' Tw.lawat_mk KX G hmg ?a ?l ?c ?k ?b
      (case a => k_is); (case l => k_is); (case c => k_is); (case k => k_is)
      (case b => exact fun _ _ _ _ _ _ s v => .of_eq rfl)
