import PyProof.Rows.All
import Wide.All
import OpenK.AllK
import Wide.FinOn
import PyProof.StrOps2
import PyProof.Rows.RuleB_pow
import HandS.ForMost
import HandS.ForExc
import HandS.IsInst
import HandS.RevRange
import HandS.Wide
import HandS.Style
import HandS.Codes
import HandS.Flow
import HandS.Steps
import HandS.ExcCtx
import HandS.HotCalls
import HandS.ExcIs
import PyProof.SumWalkG
import PyProof.WalkInts
import PyProof.Walks
import HandS.Hot
import KE.LtSeq
import HandS.SortInts
import PySem.Challenge.RW_textwrapper_k11_whole_none_less_in_lines
set_option Elab.async false
set_option linter.all false
set_option maxRecDepth 100000
set_option maxHeartbeats 4000000
namespace Tw
open PySem PySem.Spec PyProof.Rows L2

/-! ### texts as lists of codes -/
def tx (l : List Nat) : Str := ⟨l.toArray⟩
abbrev vt (l : List Nat) : V := .str (tx l)
abbrev vts (ws : List (List Nat)) : List V := ws.map vt
abbrev vis (ns : List Int) : List V := ns.map V.int
theorem tx_inj {a b : List Nat} (h : tx a = tx b) : a = b := by
  have h2 := congrArg (fun s => s.cps.toList) h
  simpa [tx] using h2
theorem vt_inj {a b : List Nat} : vt a = vt b ↔ a = b :=
  ⟨fun h => tx_inj (V.str.inj h), fun h => by rw [h]⟩
theorem tx_app (a b : List Nat) : tx a ++ tx b = tx (a ++ b) := by
  show (⟨a.toArray ++ b.toArray⟩ : Str) = ⟨(a ++ b).toArray⟩
  simp
theorem tx_len (a : List Nat) : (tx a).length = a.length := by
  show a.toArray.size = _
  simp
theorem tx_list (a : List Nat) : (tx a).cps.toList = a := by
  show a.toArray.toList = a
  simp
theorem tx_size (a : List Nat) : (tx a).cps.size = a.length := by
  show a.toArray.size = _
  simp
theorem tx_get (a : List Nat) (i : Nat) : (tx a).cps[i]? = a[i]? := by
  show a.toArray[i]? = _
  simp
theorem tx_sign (c : Nat) : (⟨#[c]⟩ : Str) = tx [c] := rfl
theorem str_tx (s : Str) : s = tx s.cps.toList := by
  obtain ⟨l⟩ := s
  rfl
theorem vts_inj {a b : List (List Nat)} (h : vts a = vts b) : a = b :=
  (List.map_inj_right (fun x y e => vt_inj.mp e)).mp h
theorem vis_inj {a b : List Int} (h : vis a = vis b) : a = b :=
  (List.map_inj_right (fun x y e => V.int.inj e)).mp h
theorem dec_vt {a b : List Nat} : decide (vt a = vt b) = decide (a = b) := by
  by_cases h : a = b
  · rw [decide_eq_true h, decide_eq_true (vt_inj.mpr h)]
  · rw [decide_eq_false h, decide_eq_false (fun e => h (vt_inj.mp e))]
theorem dec_vi {a b : Int} : decide (V.int a = V.int b) = decide (a = b) := by
  by_cases h : a = b
  · rw [decide_eq_true h, decide_eq_true (by rw [h])]
  · rw [decide_eq_false h, decide_eq_false (fun e => h (V.int.inj e))]

/-! ### heaps -/
theorem _root_.L2.Same.new {H H1 : Hp} {p : Addr} {o : HO} (s : Same H H1) (n : H1 p = none) : Same H (upd H1 p o) := fun b x e => by
  rw [upd_ne (ne_of_none (s b x e) n)]
  exact s b x e
/-- a store to what was made behind H -/
theorem _root_.L2.Same.put {H H1 : Hp} {p : Addr} {o : HO} (s : Same H H1) (n : H p = none) : Same H (upd H1 p o) := fun b x e => by
  rw [upd_ne (ne_of_none e n)]
  exact s b x e
theorem kept {H : Hp} {p q : Addr} {x o : HO} (h : H q = some x) (n : H p = none) : upd H p o q = some x := by
  rw [upd_ne (ne_of_none h n)]
  exact h
theorem _root_.L2.Same.seqT {K : PySem.W.Frag} {H H' : Hp} {a : Addr} {xs : List V} (e : Same H H') (h : SqT K H a xs) : SqT K H' a xs := by
  rcases h with (h | ⟨o, h⟩) | h
  · exact .inl (.inl (e _ _ h))
  · exact .inl (.inr ⟨o, e _ _ h⟩)
  · exact .inr h

/-! ### the built-in names that the text does not bind -/
structure Bts (mg : Str → Option Value) : Prop where
  m_len : mg "len" = none
  m_range : mg "range" = none
  m_max : mg "max" = none
  m_sum : mg "sum" = none
  m_int : mg "int" = none
  m_bool : mg "bool" = none
  m_str : mg "str" = none
  m_list : mg "list" = none
  m_isinstance : mg "isinstance" = none
  m_sorted : mg "sorted" = none
  m_reversed : mg "reversed" = none
  m_ValueError : mg "ValueError" = none

/-! ### a def of the text -/
structure At (K : PySem.W.Frag) (mg : Str → Option Value) (x : Str) (ps : List Str) (st : Stmt) : Prop where
  ex : ∃ f fd, mg x = some (.ref f) ∧ Fun K x x st f fd ∧ Binds K fd ps []
structure Ok (P : Program) (w : World) (K : PySem.W.Frag) (mg : Str → Option Value) (base : Heap) (CX : CXT) (k : Nat) (x : Str) (ps : List Str) (sp : Sp) : Prop where
  ex : ∃ f fd, mg x = some (.ref f) ∧ PySem.W.keepIn K (.ref f) = true ∧ Binds K fd ps [] ∧ FnOk P w K mg base CX k f fd ps sp
section
variable {P : Program} {w : World} {K : PySem.W.Frag} {mg : Str → Option Value} {base : Heap}
theorem At.ok {x : Str} {ps N : List Str} {st : Stmt} {k : Nat} {sp : Sp} (A : At K mg x ps st) (S : FnScope N ps (defScope st))
    (len : ∀ vs H Q E, sp vs H Q E → vs.length = ps.length)
    (hbody : ∀ (f cdv : _) (A : Around) (outer : List Env) (s : Shared) (H : Hp) (vs : List V) (Q : VK) (E : XK),
      Room k (A.deeper (envOfC x (defScope st) s.heap.objs.size f cdv)) → sp vs H Q E →
      ∃ t, PSs (cxOf CX0 P w K mg base N x (defScope st) f cdv A outer s H E).nox (defBody st) t ∧
        t { nx := fun _ H' => Q .non H', rt := Q } (start N vs) H) :
    Ok P w K mg base CX0 (k + 1) x ps sp := by
  obtain ⟨f, fd, g, F, b⟩ := A.ex
  exact ⟨f, fd, g, F.kp, b, F.ok S len (hbody f)⟩
/-- a call of it -/
theorem pe_cd {X : Cx} {CX : CXT} {k : Nat} {x : Str} {ps : List Str} {sp : Sp} {E : XK} {e : Expr} {es : List Expr} {t : TA} {p pos : Pos}
    (G : Ok X.prog X.w X.K X.mg X.base CX k x ps sp) (hr : Room k X.A) (hx : Passes CX X E) (ha : PA X (e :: es) t)
    (hg : Gl X x := by rfl) (hdb : (x == ("__debug__" : Str)) = false := by decide)
    (he : starEach (e :: es) X.env = (false, eval e X.env) :: starEach es X.env := by rfl)
    (hpl : (backTo pos (starEach es X.env)).any (·.1) = false := by rfl) :
    PE X (.Call (.Name x p) (e :: es) [] pos) (tCall sp [] E t) := by
  obtain ⟨f, fd, g, kp, b, F⟩ := G.ex
  exact pe_call F hr hg g kp b .nil hx ha hdb he hpl
/-- .. the wish of an exception at the caller's slots -/
theorem pe_cdS {X : Cx} {CX : CXT} {k : Nat} {x : Str} {ps : List Str} {sp : Sp} {E : L2.St → XK} {e : Expr} {es : List Expr} {t : TA} {p pos : Pos}
    (G : Ok X.prog X.w X.K X.mg X.base CX k x ps sp) (hr : Room k X.A) (hx : ∀ σ, PassesAt CX X σ (E σ)) (ha : PA X (e :: es) t)
    (hg : Gl X x := by rfl) (hdb : (x == ("__debug__" : Str)) = false := by decide)
    (he : starEach (e :: es) X.env = (false, eval e X.env) :: starEach es X.env := by rfl)
    (hpl : (backTo pos (starEach es X.env)).any (·.1) = false := by rfl) :
    PE X (.Call (.Name x p) (e :: es) [] pos) (tCallS sp E t) := by
  obtain ⟨f, fd, g, kp, b, F⟩ := G.ex
  exact pe_callS F hr hg g kp b hx ha hdb he hpl
end
theorem Ok.mono {P : Program} {w : World} {K : PySem.W.Frag} {mg : Str → Option Value} {base : Heap} {CX : CXT} {j k : Nat} {x : Str} {ps : List Str} {sp : Sp}
    (G : Ok P w K mg base CX j x ps sp) (h : j ≤ k) : Ok P w K mg base CX k x ps sp := by
  obtain ⟨f, fd, g, kp, b, F⟩ := G.ex
  exact ⟨f, fd, g, kp, b, F.mono h⟩
/-! ### rules that name the written part, for comprehensions -/
section
variable {X : Cx}
theorem ix_listK (K : PySem.W.Frag) (h : X.K = K := by rfl) : IxR X (rIxL K) := by subst h; exact ix_list
theorem ix_tupK (K : PySem.W.Frag) (h : X.K = K := by rfl) : IxR X (rIxT K) := by subst h; exact ix_tup
theorem sl_listK (K : PySem.W.Frag) (h : X.K = K := by rfl) : SlR X (rSlL K) := by subst h; exact sl_list
def rLenK (K : PySem.W.Frag) : List V → Hp → VK → Prop := fun xs H Q => ∃ p ys, xs = [.ref p] ∧ (SqL K H p ys ∨ SqT K H p ys) ∧ Q (.int (ys.length : Nat)) H
theorem call_lenK (K : PySem.W.Frag) (h : X.K = K := by rfl) : CallR X (.builtin "len") (rLenK K) := by subst h; exact call_len_seq
theorem op_notInK (K : PySem.W.Frag) (h : X.K = K := by rfl) : OpR X (compareOp .NotIn) (rIn K true) := by subst h; exact op_notIn_seq
def rJoin (K : PySem.W.Frag) : V → List V → Hp → VK → Prop := fun x xs H Q => ∃ a p, ∃ ys : List Str, x = .str a ∧ xs = [.ref p] ∧ (SqL K H p (ys.map V.str) ∨ SqT K H p (ys.map V.str)) ∧
  (ys.map (·.length)).sum + ys.length * a.length ≤ 16777216 ∧ Q (.str (Txt.join a ys)) H
theorem pe_joinK {o e : Expr} {to te : TE} {apos pos : Pos} (K : PySem.W.Frag) (ho : PE X o to) (he : PE X e te) (h : X.K = K := by rfl)
    (hs : starEach [e] X.env = [(false, eval e X.env)] := by rfl) (hbase : attributeBase o "join" X.env (eval o X.env) = eval o X.env := by rfl)
    (hline : (apos.endLine == pos.line) = true := by rfl) : PE X (.Call (.Attribute o "join" apos) [e] [] pos) (tM1 (rJoin K) to te) := by
  subst h
  exact pe_join ho he hs hbase hline
end
/-! ### operators that the layer lacks -/
/-- text * int -/
theorem op_mulS {X : Cx} : OpR X (binaryOp .Mult) (fun x y H Q => ∃ (l : List Nat) (n : Int), x = vt l ∧ y = .int n ∧
    -(2 ^ 63) ≤ n ∧ n < 2 ^ 63 ∧ l.length * n.toNat ≤ sizeLine ∧ Q (vt (List.replicate n.toNat l).flatten) H) := by
  intro pins s σ H x y v u Q I rx ry h
  obtain ⟨l, n, rfl, rfl, h1, h2, hz, q⟩ := h
  obtain ⟨t, rfl⟩ := rx
  obtain ⟨t', rfl⟩ := ry
  have hsl : sizeLine = 16777216 := sizeLine_eq
  have fin : ∀ (z : Str) (tk : Nat) (t0 : Tok), z = tx (List.replicate n.toNat l).flatten → EP X pins σ Q (.str z t0) { s with toks := tk } := fun z tk t0 e => by
    subst e
    exact ⟨vt (List.replicate n.toNat l).flatten, H, I.tok tk, ⟨_, rfl⟩, q⟩
  have ffold : ∀ (m : Nat) (acc : List Nat), (List.replicate m l.toArray).foldl (· ++ ·) acc.toArray = (acc ++ (List.replicate m l).flatten).toArray := by
    intro m
    induction m with
    | zero => intro acc; simp
    | succ m ih =>
      intro acc
      rw [List.replicate_succ, List.foldl_cons, List.append_toArray, ih, List.replicate_succ, List.flatten_cons, List.append_assoc]
  refine PySem.P.mul_str ?_ (fun a b => ?_) (fun a b => ?_) ?_
  · rw [decide_eq_false (by omega), decide_eq_false (by omega)]; rfl
  · rw [tx_len]
    have hn : 1 ≤ n := by omega
    have : (l.length : Int) * n ≤ 16777216 := by
      rw [hsl] at hz
      have e : ((n.toNat : Nat) : Int) = n := Int.toNat_of_nonneg (by omega)
      have hz2 : ((l.length * n.toNat : Nat) : Int) ≤ ((16777216 : Nat) : Int) := Int.ofNat_le.mpr hz
      rw [Int.natCast_mul, e] at hz2
      omega
    intro hgt
    have : (2 ^ 63 - 1 : Int) / n < l.length := hgt
    have h3 := (Int.ediv_lt_iff_lt_mul (a := 2 ^ 63 - 1) (b := (l.length : Int)) (c := n) (by omega)).mp this
    omega
  · rw [tx_len]
    show decide _ = false
    exact decide_eq_false (Nat.not_lt.mpr hz)
  · by_cases a : n < 1
    · rw [if_pos a]
      have e0 : n.toNat = 0 := by omega
      refine ⟨by decide, ?_⟩
      exact fin _ _ _ (by rw [e0]; rfl)
    · rw [if_neg a]
      by_cases b : (n == 1 || (tx l).length == 0) = true
      · rw [if_pos b]
        have e1 : (List.replicate n.toNat l).flatten = l := by
          rcases Bool.or_eq_true_iff.mp b with b | b
          · have : n = 1 := eq_of_beq b
            subst this
            simp
          · have : l = [] := by
              have := eq_of_beq b
              rw [tx_len] at this
              exact List.length_eq_zero_iff.mp this
            subst this
            simp
        show EP X pins σ Q (.str (tx l) t) s
        exact fin (tx l) s.toks t (by rw [e1])
      · rw [if_neg b]
        have e2 : (⟨(List.replicate n.toNat (tx l).cps).foldl (· ++ ·) #[]⟩ : Str) = tx (List.replicate n.toNat l).flatten := by
          have := ffold n.toNat []
          show (⟨(List.replicate n.toNat l.toArray).foldl (· ++ ·) #[]⟩ : Str) = ⟨(List.replicate n.toNat l).flatten.toArray⟩
          rw [show (#[] : Array Nat) = ([] : List Nat).toArray from rfl, this]
          rfl
        have e3 : (List.replicate n.toNat l).flatten.length ≤ sizeLine := by
          rw [List.length_flatten, List.map_replicate, List.sum_replicate_nat, Nat.mul_comm]
          exact hz
        rw [e2]
        first
          | exact ⟨by rw [tx_len]; exact e3, fin _ _ _ rfl⟩
          | exact fin _ _ _ rfl
/-- powers of numbers of a known size -/
theorem op_powW {X : Cx} : OpR X (binaryOp .Pow) (fun x y H Q => ∃ i j : Int, x = .int i ∧ y = .int j ∧ 0 ≤ j ∧ (Builtin.Int.intBits i : Int) * j ≤ 2 ^ 27 ∧ Q (.int (i ^ j.toNat)) H) := by
  intro pins s σ H x y v u Q I rx ry h
  obtain ⟨i, j, rfl, rfl, h1, h2, q⟩ := h
  obtain ⟨t, rfl⟩ := rx
  obtain ⟨t', rfl⟩ := ry
  exact PyProof.Rows.pow_int h1 h2 ⟨.int _, H, I.tok _, ⟨_, rfl⟩, q⟩

/-! ### == of lists of ints and texts -/
def flat : V → Bool
  | .int _ => true
  | .str z => PyData.strOk z
  | _ => false
def pd : V → PyData
  | .int i => .int i
  | .str z => .str z
  | _ => .none
theorem pd_eqv : ∀ {a b : V}, flat a = true → flat b = true → PyData.eqv (pd a) (pd b) = decide (a = b) := by
  intro a b ha hb
  cases a <;> first | exact absurd ha Bool.false_ne_true | skip
  all_goals (cases b <;> first | exact absurd hb Bool.false_ne_true | skip)
  · rename_i i j
    show (i == j) = _
    rw [dec_vi, Bool.beq_eq_decide_eq]
  · simp [pd, PyData.eqv]
  · simp [pd, PyData.eqv]
  · rename_i i j
    show (i == j) = _
    rw [Bool.beq_eq_decide_eq]
    by_cases e : i = j
    · subst e; simp
    · rw [decide_eq_false e, decide_eq_false (fun z => e (V.str.inj z))]
theorem pd_eqvAll : ∀ {xs ys : List V}, xs.all flat = true → ys.all flat = true → PyData.eqvAll (xs.map pd) (ys.map pd) = decide (xs = ys) := by
  intro xs
  induction xs with
  | nil =>
    intro ys _ _
    cases ys with
    | nil => simp [PyData.eqvAll]
    | cons y r => simp [PyData.eqvAll]
  | cons x r ih =>
    intro ys hx hy
    cases ys with
    | nil => simp [PyData.eqvAll]
    | cons y q =>
      simp only [List.all_cons, Bool.and_eq_true] at hx hy
      show (PyData.eqv (pd x) (pd y) && PyData.eqvAll (r.map pd) (q.map pd)) = _
      rw [pd_eqv hx.1 hy.1, ih hx.2 hy.2]
      by_cases e1 : x = y
      · by_cases e2 : r = q
        · subst e1 e2; simp
        · simp [e2]
      · simp [e1]
theorem dpAll {K : PySem.W.Frag} {H : Hp} : ∀ {xs : List V}, xs.all flat = true → DpAll K H xs (xs.map pd) := by
  intro xs
  induction xs with
  | nil => intro _; exact .nil
  | cons x r ih =>
    intro h
    simp only [List.all_cons, Bool.and_eq_true] at h
    refine .cons ?_ (ih h.2)
    have h1 := h.1
    cases x <;> first | exact absurd h1 Bool.false_ne_true | skip
    · exact .int _
    · exact .str _
theorem pd_lay : ∀ {x : V}, flat x = true → (pd x).canLay0 = true ∧ (pd x).depth = 0 := by
  intro x h
  cases x <;> first | exact absurd h Bool.false_ne_true | skip
  · exact ⟨by simp [pd, PyData.canLay0], by simp [pd, PyData.depth]⟩
  · exact ⟨by simp only [pd, PyData.canLay0]; exact h, by simp [pd, PyData.depth]⟩
theorem pd_layAll : ∀ {xs : List V}, xs.all flat = true → PyData.canLayAll0 (xs.map pd) = true ∧ PyData.depthAll (xs.map pd) = 0 := by
  intro xs
  induction xs with
  | nil => intro _; exact ⟨by simp [PyData.canLayAll0], by simp [PyData.depthAll]⟩
  | cons x r ih =>
    intro h
    simp only [List.all_cons, Bool.and_eq_true] at h
    obtain ⟨h1, h2⟩ := pd_lay h.1
    obtain ⟨h3, h4⟩ := ih h.2
    exact ⟨by simp [PyData.canLayAll0, h1, h3], by simp [PyData.depthAll, h2, h4]⟩
theorem pd_shaped {xs : List V} (h : xs.all flat = true) : SeqAt.shaped (.list (xs.map pd)) = true := by
  obtain ⟨h1, h2⟩ := pd_layAll h
  simp [SeqAt.shaped, PyData.canLay0, PyData.depth, h1, h2]
def rEqL (K : PySem.W.Frag) : R2 := fun x y H Q => ∃ a b xs ys, x = .ref a ∧ y = .ref b ∧ SqL K H a xs ∧ SqL K H b ys ∧ xs.all flat = true ∧ ys.all flat = true ∧ Q (.bl (decide (xs = ys))) H
def rNeL (K : PySem.W.Frag) : R2 := fun x y H Q => ∃ a b xs ys, x = .ref a ∧ y = .ref b ∧ SqL K H a xs ∧ SqL K H b ys ∧ xs.all flat = true ∧ ys.all flat = true ∧ Q (.bl (!decide (xs = ys))) H
theorem op_eqL {X : Cx} {k : Nat} (hr : Room k X.A) : OpR X (compareOp .Eq) (rEqL X.K) := by
  intro pins s σ H x y v u Q I rx ry h
  obtain ⟨a, b, xs, ys, rfl, rfl, ha, hb, fa, fb, q⟩ := h
  refine op_eqD hr.units pins s σ H _ _ v u Q I rx ry ⟨_, _, .lst ha (dpAll fa), .lst hb (dpAll fb), pd_shaped fa, pd_shaped fb, ?_⟩
  show Q (.bl (PyData.eqvAll _ _)) H
  rw [pd_eqvAll fa fb]
  exact q
theorem op_neL {X : Cx} {k : Nat} (hr : Room k X.A) : OpR X (compareOp .NotEq) (rNeL X.K) := by
  intro pins s σ H x y v u Q I rx ry h
  obtain ⟨a, b, xs, ys, rfl, rfl, ha, hb, fa, fb, q⟩ := h
  refine op_neD hr.units pins s σ H _ _ v u Q I rx ry ⟨_, _, .lst ha (dpAll fa), .lst hb (dpAll fb), pd_shaped fa, pd_shaped fb, ?_⟩
  show Q (.bl (!PyData.eqvAll _ _)) H
  rw [pd_eqvAll fa fb]
  exact q
theorem flat_vis (ns : List Int) : (vis ns).all flat = true := by
  simp [flat]
end Tw
namespace Tw
open PySem PySem.Spec PyProof.Rows L2
/-! ### loops by what is done and what is to come -/
theorem split_at {α : Type} {l : List α} {i : Nat} {c : α} (h : l[i]? = some c) : l = l.take i ++ c :: l.drop (i + 1) ∧ l.drop i = c :: l.drop (i + 1) ∧ l.take (i + 1) = l.take i ++ [c] := by
  obtain ⟨hi, e⟩ := List.getElem?_eq_some_iff.mp h
  have d : l.drop i = c :: l.drop (i + 1) := by
    rw [List.drop_eq_getElem_cons hi, e]
  refine ⟨?_, d, ?_⟩
  · rw [← d, List.take_append_drop]
  · rw [List.take_add_one, h]; rfl
/-- over the signs of a text -/
theorem for_txt {l : List Nat} {g : TG} {tb : TS} {D : Ends} {σ : L2.St} {H : Hp} (Pv : List Nat → List Nat → L2.St → Hp → Prop) (h0 : Pv [] l σ H)
    (hs : ∀ a c b σ H, l = a ++ c :: b → Pv a (c :: b) σ H → g (vt [c]) σ H fun σ2 H2 => tb { D with nx := Pv (a ++ [c]) b, ct := Pv (a ++ [c]) b, bk := D.nx } σ2 H2)
    (hd : ∀ σ H, Pv l [] σ H → D.nx σ H) :
    ∃ W : Nat → Nat → L2.St → Hp → Prop, (∃ m, W 0 m σ H) ∧ ∀ i m σ H, W i m σ H →
      ((Its (tx l)).stop i H ∧ D.nx σ H) ∨ ((Its (tx l)).go i H ∧ ∃ N : L2.St → Hp → Prop, (∀ σ' H', N σ' H' → ∃ m', m' < m ∧ W (i + 1) m' σ' H') ∧
        ∀ x H', (Its (tx l)).yld i H x H' → g x σ H' fun σ2 H2 => tb { D with nx := N, ct := N, bk := D.nx } σ2 H2) := by
  refine ⟨fun i m σ H => m = l.length - i ∧ i ≤ l.length ∧ Pv (l.take i) (l.drop i) σ H, ⟨l.length, by simp, Nat.zero_le _, by simpa using h0⟩, ?_⟩
  rintro i m σ H ⟨rfl, hi, p⟩
  by_cases hlt : i < l.length
  · have hc : l[i]? = some l[i] := List.getElem?_eq_getElem hlt
    obtain ⟨e1, e2, e3⟩ := split_at hc
    refine .inr ⟨?_, Pv (l.take i ++ [l[i]]) (l.drop (i + 1)), fun σ' H' p' => ⟨l.length - (i + 1), by omega, rfl, hlt, ?_⟩, fun x H' y => ?_⟩
    · show i < (tx l).cps.size
      rw [tx_size]; exact hlt
    · rw [e3]; exact p'
    · obtain ⟨e, c, hc', rfl⟩ := y
      subst e
      rw [tx_get, hc] at hc'
      have ec := Option.some.inj hc'
      subst ec
      rw [e2] at p
      exact hs (l.take i) l[i] (l.drop (i + 1)) σ _ e1 p
  · have e : i = l.length := by omega
    subst e
    refine .inl ⟨?_, hd σ H ?_⟩
    · show (tx l).cps.size ≤ l.length
      rw [tx_size]; exact Nat.le_refl _
    · simpa using p
/-- over a list that the body leaves as it is; the items by f -/
theorem for_lst {α : Type} {f : α → V} {K : PySem.W.Frag} {a : Addr} {l : List α} {g : TG} {tb : TS} {D : Ends} {σ : L2.St} {H : Hp} (Pv : List α → List α → L2.St → Hp → Prop) (h0 : Pv [] l σ H)
    (hl : ∀ d r σ H, Pv d r σ H → SqL K H a (l.map f))
    (hs : ∀ d c b σ H, l = d ++ c :: b → Pv d (c :: b) σ H → g (f c) σ H fun σ2 H2 => tb { D with nx := Pv (d ++ [c]) b, ct := Pv (d ++ [c]) b, bk := D.nx } σ2 H2)
    (hd : ∀ σ H, Pv l [] σ H → D.nx σ H) :
    ∃ W : Nat → Nat → L2.St → Hp → Prop, (∃ m, W 0 m σ H) ∧ ∀ i m σ H, W i m σ H →
      ((Itl K a).stop i H ∧ D.nx σ H) ∨ ((Itl K a).go i H ∧ ∃ N : L2.St → Hp → Prop, (∀ σ' H', N σ' H' → ∃ m', m' < m ∧ W (i + 1) m' σ' H') ∧
        ∀ x H', (Itl K a).yld i H x H' → g x σ H' fun σ2 H2 => tb { D with nx := N, ct := N, bk := D.nx } σ2 H2) := by
  refine for_list (xs := l.map f) (fun i σ H => Pv (l.take i) (l.drop i) σ H) (by simpa using h0) (fun i σ H _ p => hl _ _ _ _ p) (fun i x σ H hx p => ?_) (fun σ H p => hd σ H (by simpa using p))
  rw [List.getElem?_map] at hx
  cases hc : l[i]? with
  | none => rw [hc] at hx; cases hx
  | some c =>
    rw [hc] at hx
    have ex : f c = x := Option.some.inj hx
    subst ex
    obtain ⟨e1, e2, e3⟩ := split_at hc
    rw [e2] at p
    rw [e3]
    exact hs _ _ _ σ H e1 p

theorem last_eq {α : Type} {l d : List α} {a c : α} (h : l ++ [a] = d ++ [c]) : a = c := by
  have := (List.append_inj' h rfl).2
  exact (List.cons.inj this).1
theorem vts_app (ws : List (List Nat)) (h : List Nat) : vts (ws ++ [h]) = vts ws ++ [vt h] := List.map_append
theorem vis_app (ws : List Int) (h : Int) : vis (ws ++ [h]) = vis ws ++ [.int h] := List.map_append
theorem flat_get {α : Type} {f : α → V} {l : List α} {i : Nat} {x : α} (h : l[i]? = some x) : (l.map f)[i]? = some (f x) := by
  rw [List.getElem?_map, h]; rfl
/-! ### literals -/
theorem lit_sp : PySem.Str.ofString " " = tx [32] := by decide +kernel
theorem lit_nl : PySem.Str.ofString "\n" = tx [10] := by decide +kernel
theorem lit_nil : PySem.Str.ofString "" = tx [] := by decide +kernel
theorem ne_vt {a b : List Nat} {x : Str} (e : x = tx b) : (!decide (vt a = V.str x)) = !decide (a = b) := by
  rw [e, dec_vt]
theorem ne_sg {a b : Nat} {x : Str} (e : x = tx [b]) : (!decide (vt [a] = V.str x)) = !decide (a = b) := by
  rw [ne_vt e]
  simp
theorem sz {n : Nat} (h : n ≤ 16777216 := by omega) : n ≤ sizeLine := by
  rw [sizeLine_eq]; exact h
theorem szl {n : Nat} (h : n < 16777216 := by omega) : n < sizeLine := by
  rw [sizeLine_eq]; exact h
/-! ### tests -/
theorem tst {b : Bool} {c A B : Prop} [Decidable c] (e : b = decide c) (h1 : c → A) (h2 : ¬ c → B) : if b = true then A else B := by
  subst e
  by_cases h : c
  · rw [if_pos (decide_eq_true h)]; exact h1 h
  · rw [if_neg (by simpa using h)]; exact h2 h
theorem tsn {b : Bool} {c A B : Prop} [Decidable c] (e : b = !decide c) (h1 : ¬ c → A) (h2 : c → B) : if b = true then A else B := by
  subst e
  by_cases h : c
  · rw [if_neg (by simpa using h)]; exact h2 h
  · rw [if_pos (by simpa using h)]; exact h1 h
/-! ### slices -/
theorem cut_from {α : Type} (f : α → V) (l : List α) (k : Nat) : cutV (l.map f) (some (k : Int)) none = (l.drop k).map f := by
  unfold cutV
  rw [show HT.sIx (l.map f).length 0 (some (k : Int)) = min k (l.map f).length from HT.sIx_nat _ 0 k, HT.sIx_none, List.length_map, List.map_drop]
  by_cases h : k ≤ l.length
  · rw [Nat.min_eq_left h, List.take_of_length_le (by simp)]
  · have h2 : l.length ≤ k := by omega
    rw [Nat.min_eq_right h2, List.drop_of_length_le (by simp), List.drop_of_length_le (by simpa using h2)]
    simp
theorem cut_to {α : Type} (f : α → V) (l : List α) (k : Nat) : cutV (l.map f) none (some (k : Int)) = (l.take k).map f := by
  unfold cutV
  rw [show HT.sIx (l.map f).length (l.map f).length (some (k : Int)) = min k (l.map f).length from HT.sIx_nat _ _ k, HT.sIx_none, List.length_map, List.map_take, List.drop_zero, Nat.sub_zero]
  by_cases h : k ≤ l.length
  · rw [Nat.min_eq_left h]
  · have h2 : l.length ≤ k := by omega
    rw [Nat.min_eq_right h2, List.take_of_length_le (by simp), List.take_of_length_le (by simpa using h2)]
theorem cut_ft {α : Type} (f : α → V) (l : List α) (a b : Nat) : cutV (l.map f) (some (a : Int)) (some (b : Int)) = ((l.drop a).take (b - a)).map f := by
  unfold cutV
  rw [show HT.sIx (l.map f).length (l.map f).length (some (b : Int)) = min b (l.map f).length from HT.sIx_nat _ _ b, show HT.sIx (l.map f).length 0 (some (a : Int)) = min a (l.map f).length from HT.sIx_nat _ _ a, List.length_map, List.map_take, List.map_drop]
  by_cases ha : a ≤ l.length
  · rw [Nat.min_eq_left ha]
    by_cases hb : b ≤ l.length
    · rw [Nat.min_eq_left hb]
    · have h1 : (List.drop a (List.map f l)).length ≤ min b l.length - a := by
        rw [List.length_drop, List.length_map]; omega
      have h2 : (List.drop a (List.map f l)).length ≤ b - a := by
        rw [List.length_drop, List.length_map]; omega
      rw [List.take_of_length_le h1, List.take_of_length_le h2]
  · have h1 : List.drop (min a l.length) (List.map f l) = [] := List.drop_of_length_le (by rw [List.length_map]; omega)
    have h2 : List.drop a (List.map f l) = [] := List.drop_of_length_le (by rw [List.length_map]; omega)
    rw [h1, h2, List.take_nil, List.take_nil]
theorem le_sum_mem : ∀ {l : List Nat} {x : Nat}, x ∈ l → x ≤ l.sum
  | a :: r, x, h => by
    rw [List.sum_cons]
    rcases List.mem_cons.mp h with e | h
    · omega
    · have := le_sum_mem h; omega
/-! ### words -/
def wcut (h : List Nat) : List Nat → List (List Nat)
  | [] => if h = [] then [] else [h]
  | c :: r => if c = 32 ∨ c = 10 then (if h = [] then wcut [] r else h :: wcut [] r) else wcut (h ++ [c]) r
theorem wcut_b {c : Nat} {r : List Nat} (h : c = 32 ∨ c = 10) : wcut [] (c :: r) = wcut [] r := by
  simp only [wcut]; rw [if_pos h]; simp
theorem wcut_w {c : Nat} {r h : List Nat} (n : h ≠ []) (hc : c = 32 ∨ c = 10) : wcut h (c :: r) = h :: wcut [] r := by
  simp only [wcut]; rw [if_pos hc, if_neg n]
theorem wcut_s {c : Nat} {r h : List Nat} (hc : ¬ (c = 32 ∨ c = 10)) : wcut h (c :: r) = wcut (h ++ [c]) r := by
  simp only [wcut]; rw [if_neg hc]
theorem wcut_e {h : List Nat} (n : h ≠ []) : wcut h [] = [h] := by
  simp only [wcut]; rw [if_neg n]
theorem wcut_blank : ∀ (l h : List Nat), wcut h (l ++ [32]) = wcut h l
  | [], h => by simp [wcut]
  | c :: r, h => by
    simp only [List.cons_append, wcut]
    rw [wcut_blank r [], wcut_blank r (h ++ [c])]
theorem wcut_length : ∀ (l h : List Nat), (wcut h l).length ≤ l.length + 1
  | [], h => by simp only [wcut]; split <;> simp
  | c :: r, h => by
    simp only [wcut]
    have h1 := wcut_length r []
    have h2 := wcut_length r (h ++ [c])
    simp only [List.length_cons]
    split
    · split
      · omega
      · simp only [List.length_cons]; omega
    · omega
/-- what is in the words is in the text -/
theorem wcut_mem : ∀ (l h : List Nat) {x : List Nat} {c : Nat}, x ∈ wcut h l → c ∈ x → c ∈ h ∨ (c ∈ l ∧ c ≠ 32 ∧ c ≠ 10)
  | [], h, x, c, hx, hc => by
    simp only [wcut] at hx
    split at hx
    · cases hx
    · rw [List.mem_singleton.mp hx] at hc; exact .inl hc
  | d :: r, h, x, c, hx, hc => by
    simp only [wcut] at hx
    have up : ∀ {q : List Nat}, (c ∈ q ∨ (c ∈ r ∧ c ≠ 32 ∧ c ≠ 10)) → c ∈ q ∨ (c ∈ d :: r ∧ c ≠ 32 ∧ c ≠ 10) := fun z => z.imp id fun z => ⟨List.mem_cons_of_mem _ z.1, z.2⟩
    split at hx
    · split at hx
      · rcases up (wcut_mem r [] hx hc) with z | z
        · cases z
        · exact .inr z
      · rcases List.mem_cons.mp hx with e | hx
        · rw [e] at hc; exact .inl hc
        · rcases up (wcut_mem r [] hx hc) with z | z
          · cases z
          · exact .inr z
    · rename_i hd
      rcases wcut_mem r (h ++ [d]) hx hc with z | z
      · rcases List.mem_append.mp z with z | z
        · exact .inl z
        · rw [List.mem_singleton.mp z]
          exact .inr ⟨List.mem_cons_self, fun e => hd (.inl e), fun e => hd (.inr e)⟩
      · exact .inr ⟨List.mem_cons_of_mem _ z.1, z.2⟩
theorem wcut_ne : ∀ (l h : List Nat), [] ∉ wcut h l
  | [], h => by
    simp only [wcut]
    split
    · simp
    · rename_i n; simp; exact n
  | c :: r, h => by
    simp only [wcut]
    split
    · split
      · exact wcut_ne r []
      · rename_i n
        intro z
        rcases List.mem_cons.mp z with e | z
        · exact n e.symm
        · exact wcut_ne r [] z
    · exact wcut_ne r _
theorem wcut_plain : ∀ (l h : List Nat), (∀ c ∈ l, c ≠ 32 ∧ c ≠ 10) → wcut h l = if h ++ l = [] then [] else [h ++ l]
  | [], h, _ => by simp [wcut]
  | c :: r, h, hl => by
    have hc := hl c List.mem_cons_self
    simp only [wcut]
    rw [if_neg (by omega), wcut_plain r (h ++ [c]) fun d hd => hl d (List.mem_cons_of_mem _ hd)]
    simp
/-- the length of all signs in the words -/
def total (ws : List (List Nat)) : Nat := (ws.map List.length).sum
theorem wcut_total : ∀ (l h : List Nat), total (wcut h l) ≤ h.length + l.length
  | [], h => by
    simp only [wcut]
    split <;> simp [total]
  | c :: r, h => by
    simp only [wcut]
    have h1 := wcut_total r []
    have h2 := wcut_total r (h ++ [c])
    simp only [List.length_append, List.length_cons, List.length_nil] at h1 h2 ⊢
    split
    · split
      · omega
      · simp only [total, List.map_cons, List.sum_cons] at h1 ⊢; omega
    · omega
theorem one_word (l : List Nat) : wcut [] l = [l] ↔ (l ≠ [] ∧ 32 ∉ l ∧ 10 ∉ l) := by
  constructor
  · intro h
    refine ⟨fun e => ?_, fun z => ?_, fun z => ?_⟩
    · subst e; simp [wcut] at h
    · have := wcut_mem l [] (x := l) (c := 32) (by rw [h]; simp) z
      rcases this with z | z
      · cases z
      · exact z.2.1 rfl
    · have := wcut_mem l [] (x := l) (c := 10) (by rw [h]; simp) z
      rcases this with z | z
      · cases z
      · exact z.2.2 rfl
  · rintro ⟨h1, h2, h3⟩
    rw [wcut_plain l [] fun c hc => ⟨fun e => h2 (e ▸ hc), fun e => h3 (e ▸ hc)⟩]
    simp [h1]
/-- texts joined -/
def jn (y : List Nat) : List (List Nat) → List Nat
  | [] => []
  | [p] => p
  | p :: q :: r => p ++ (y ++ jn y (q :: r))
theorem jn_eq (y : List Nat) : ∀ ws : List (List Nat), TL.joinL y ws = jn y ws
  | [] => rfl
  | [_] => rfl
  | p :: q :: r => by
    show p ++ (y ++ TL.joinL y (q :: r)) = p ++ (y ++ jn y (q :: r))
    rw [jn_eq y (q :: r)]
theorem join_tx (y : List Nat) (ws : List (List Nat)) : Txt.join (tx y) (ws.map tx) = tx (jn y ws) := by
  rw [TL.join_eq]
  refine TL.ext_tl ?_
  have tlx : ∀ x : List Nat, TL.tl (tx x) = x := fun x => tx_list x
  rw [TL.tl_join, tlx, tlx, List.map_map, show (TL.tl ∘ tx) = (id : List Nat → List Nat) from funext tlx, List.map_id, jn_eq]
theorem jn_len (y : List Nat) : ∀ ws : List (List Nat), (jn y ws).length ≤ total ws + ws.length * y.length
  | [] => by simp [jn]
  | [p] => by simp [jn, total]
  | p :: q :: r => by
    have h := jn_len y (q :: r)
    have e : (p :: q :: r).length * y.length = (q :: r).length * y.length + y.length := by rw [List.length_cons, Nat.succ_mul]
    rw [e]
    show (p ++ (y ++ jn y (q :: r))).length ≤ _
    have e2 : total (p :: q :: r) = p.length + total (q :: r) := rfl
    rw [List.length_append, List.length_append, e2]
    omega
theorem jn_nil : ∀ ws : List (List Nat), jn [] ws = ws.flatten
  | [] => rfl
  | [p] => by simp [jn]
  | p :: q :: r => by
    show p ++ ([] ++ jn [] (q :: r)) = _
    rw [jn_nil (q :: r)]; rfl
theorem jn_mem {c : Nat} {ws : List (List Nat)} (h : c ∈ jn [] ws) : ∃ x ∈ ws, c ∈ x := by
  rw [jn_nil] at h
  obtain ⟨x, hx, hc⟩ := List.mem_flatten.mp h
  exact ⟨x, hx, hc⟩
/-- of such a text's signs -/
def plainTx (l : List Nat) : Prop := ∀ c ∈ l, c < 1114112
theorem plain_ok {l : List Nat} (h : plainTx l) : PyData.strOk (tx l) = true := by
  show l.toArray.all _ = true
  rw [List.all_toArray, List.all_eq_true]
  intro c hc
  exact decide_eq_true (h c hc)
theorem flat_vts {ws : List (List Nat)} (h : ∀ x ∈ ws, plainTx x) : (vts ws).all flat = true := by
  rw [List.all_map, List.all_eq_true]
  exact fun x hx => plain_ok (h x hx)
/-! ### the end: what the top has written -/
theorem at_mk {K : PySem.W.Frag} {h : Heap} {mg : Str → Option Value} {x : Str} {ps : List Str} {st : Stmt} {f : Addr} {oc kV dc pm cd ct : Value} {od an : Option Addr} {sl : Array (Option Value)}
    (X : K.In h) (G : h.Ns mainGlobals mg) (a : PySem.W.nsIn K mainGlobals x = some (some (.ref f)))
    (l : K.lookup f = some ⟨oc, od, .func (PySem.W.fnOf x x (defArgs st) (defBody st) (defScope st) .none kV dc pm an cd ct), sl⟩)
    (c : PySem.W.codeIn K cd x = true) (k : PySem.W.keepIn K (.ref f) = true)
    (b : ∀ (kV doc pm : Value) (an : Option Addr) (cdv ct : Value) (us : List Value), us.length = ps.length →
      bindArgs (PySem.W.fnOf x x (defArgs st) (defBody st) (defScope st) .none kV doc pm an cdv ct) ⟨us, []⟩ = pure (ps.zip us)) : At K mg x ps st := by
  have F := fun_mk (x := x) (qual := x) (st := st) l c k
  exact ⟨f, _, PySem.W.mg_of X G a, F, F.binds b⟩
structure LawAt (K : PySem.W.Frag) (fa : Addr) (x p : Str) (st : Stmt) : Prop where
  ex : ∃ fd, (∀ (s : Shared) (v : Value), BindsTo s fd ⟨[v], []⟩ [(p, v)]) ∧ Fun K x x st fa fd
theorem lawat_mk {K : PySem.W.Frag} {h : Heap} {mg : Str → Option Value} {x p : Str} {st : Stmt} {f fa : Addr} {oc kV dc pm cd ct : Value} {od an : Option Addr} {sl : Array (Option Value)}
    (X : K.In h) (G : h.Ns mainGlobals mg) (hfa : mg x = some (.ref fa)) (a : PySem.W.nsIn K mainGlobals x = some (some (.ref f)))
    (l : K.lookup f = some ⟨oc, od, .func (PySem.W.fnOf x x (defArgs st) (defBody st) (defScope st) .none kV dc pm an cd ct), sl⟩)
    (c : PySem.W.codeIn K cd x = true) (k : PySem.W.keepIn K (.ref f) = true)
    (b : ∀ (kV doc pm : Value) (an : Option Addr) (cdv ct : Value) (s : Shared) (v : Value),
      BindsTo s (PySem.W.fnOf x x (defArgs st) (defBody st) (defScope st) .none kV doc pm an cdv ct) ⟨[v], []⟩ [(p, v)]) : LawAt K fa x p st := by
  have e := hfa.symm.trans (PySem.W.mg_of X G a)
  cases e
  exact ⟨_, b kV dc pm an cd ct, fun_mk (x := x) (qual := x) (st := st) l c k⟩
theorem bts_mk {K : PySem.W.Frag} {h : Heap} {mg : Str → Option Value} (X : K.In h) (G : h.Ns mainGlobals mg)
    (z1 : PySem.W.nsIn K mainGlobals "len" = some none) (z2 : PySem.W.nsIn K mainGlobals "range" = some none) (z3 : PySem.W.nsIn K mainGlobals "max" = some none)
    (z4 : PySem.W.nsIn K mainGlobals "sum" = some none) (z5 : PySem.W.nsIn K mainGlobals "int" = some none) (z6 : PySem.W.nsIn K mainGlobals "bool" = some none)
    (z7 : PySem.W.nsIn K mainGlobals "str" = some none) (z8 : PySem.W.nsIn K mainGlobals "list" = some none) (z9 : PySem.W.nsIn K mainGlobals "isinstance" = some none)
    (za : PySem.W.nsIn K mainGlobals "sorted" = some none) (zb : PySem.W.nsIn K mainGlobals "reversed" = some none) (zc : PySem.W.nsIn K mainGlobals "ValueError" = some none) : Bts mg :=
  have n : ∀ {x : Str}, PySem.W.nsIn K mainGlobals x = some none → mg x = none := fun z => PySem.W.mg_none_of X G z
  ⟨n z1, n z2, n z3, n z4, n z5, n z6, n z7, n z8, n z9, n za, n zb, n zc⟩
end Tw
namespace Tw
open PySem PySem.Spec PyProof.Rows L2
/-! ### while an exception is handled: the end of a list's iterator, sum, a comprehension over a range -/
section
variable {prog : Program} {w : World} {A : Around} {E : Value → Shared → Prop} {s : Shared}
theorem hot_list_end {it l x1 : Addr} {i : Nat} {items : Array Value} {Q : Option Value → Shared → Prop} (hot : HotX.HotAt A x1 s.heap)
    (hit : s.heap.IsListIter it l i) (hl : s.heap.IsList l items) (hx : items[i]? = none) (hn : x1 ≠ it)
    (hQ : ∀ h', Heap.ExtBut it s.heap h' → Q none { s with heap := h' }) : wpAny (model prog w) A (pyNext (.ref it)) Q E s := by
  obtain ⟨o, ho, hc, hd⟩ := id hit
  obtain ⟨ol, hol, _, nl, hdl⟩ := hl
  obtain ⟨hh, o1, vs1, h1, d1, c1⟩ := hot
  unfold pyNext
  refine wpAny_bind (wpAny_attempt ?_)
  refine wpAny_callSpecial?_slot (name := Str.ofString "__next__") hit.typeIs slot_listiter_next ?_
  refine wpAny_call_entry slot_listiter_next hit.typeIs entry_listiter_next ?_ (args_listiter_next _)
  show wpAny _ _ (field (.ref it) 0 >>= _) _ _ s
  refine wpAny_bind ?_
  refine wpAny_field ho hd (x := .ref l) rfl ?_
  show wpAny _ _ (if (Value.ref l == Value.none) = true then _ else _) _ _ s
  have nz : ¬ ((Value.ref l == Value.none) = true) := fun z => by cases z
  rw [if_neg nz]
  show wpAny _ _ (field (.ref it) 1 >>= _) _ _ s
  refine wpAny_bind ?_
  refine wpAny_field ho hd (x := .int i 0) rfl ?_
  show wpAny _ _ (seqItems? (.ref l) >>= _) _ _ s
  refine wpAny_bind ?_
  refine wpAny_seqItems hol hdl ?_
  simp only [Int.toNat_natCast, hx]
  refine wpAny_bind (wpAny_rule ?_)
  refine wpAny_bind (wpAny_setField ho hd (by simp) ?_)
  show wpAny _ _ (newExc (.type "StopIteration") [] >>= _) _ _ _
  refine wpAny_bind ?_
  simp only [newExc, newTuple]
  refine wpAny_bind ?_
  refine wpAny_newObj_type ?_ (by size_fits)
  refine wpAny_bind (m := firstArgMember _ _) ?_
  refine wpAny_of_eq (a := Value.none) (by first | rfl | (simp only [firstArgMember]; rfl)) ?_
  refine wpAny_newObj_type ?_ (by size_fits)
  have e1 : (s.heap.update it (Obj.mapFields (·.setIfInBounds 0 Value.none))).get? x1 = some o1 := by
    rw [Heap.get?_update_other _ _ (Ne.symm hn)]; exact h1
  refine HotX.raiseNew_hot (x1 := x1) ⟨hh, o1, vs1, Heap.get?_push_of_some _ (Heap.get?_push_of_some _ e1), d1, c1⟩ ?_ (Heap.get?_push_size _ rfl) rfl ?_ ?_
  · exact Nat.ne_of_lt (Heap.lt_size (Heap.get?_push_of_some _ e1))
  · first | (simp; done) | (simp; omega)
  · refine wpAny_bind ?_
    refine wpAny_isInstance (T := "StopIteration") (b := true) ⟨_, Heap.get?_update_self _ (Heap.get?_push_size _ rfl) rfl, rfl⟩ isSubtype_stop ?_
    refine wpAny_pure (hQ _ ?_)
    refine fun b ob hb e => ?_
    have e2 : (s.heap.update it (Obj.mapFields (·.setIfInBounds 0 Value.none))).get? b = some ob := by
      rw [Heap.get?_update_other _ _ (Ne.symm hb)]; exact e
    have e3 := Heap.get?_push_of_some { cls := .type "tuple", data := .seq ([] : List Value).toArray } e2
    rw [Heap.get?_update_other _ _ (Nat.ne_of_gt (Heap.lt_size e3))]
    exact Heap.get?_push_of_some _ e3
end
end Tw
namespace Tw
open PySem PySem.Spec PyProof.Rows L2
theorem hot_walks {prog : Program} {w : World} {A : Around} {x1 : Addr} {o1 : Obj} {vs1 : Array Value} (hh : A.handled = some (.ref x1)) (d1 : o1.data = .fields vs1) (c1 : vs1[2]? = some .none)
    (J ax : Addr) (hne : ax ≠ J) (hx : x1 ≠ J) (items : Array Value) :
    Walks prog w A J [J, ax, x1] [J] items.size (fun i v => items[i]? = some v) (fun i h => h.IsListIter J ax i ∧ h.IsList ax items ∧ h.get? x1 = some o1) where
  sub := fun b hb => by
    rw [List.mem_singleton.mp hb]; exact List.mem_cons_self
  frame := fun _ _ _ st hk => ⟨st.1.at fun o e => hk J (by simp) o e, st.2.1.at fun o e => hk ax (by simp) o e, hk x1 (by simp) _ st.2.2⟩
  item := fun i s Q E hi st hQ => by
    refine wpAny_pyNext_list_item st.1 st.2.1 (x := items[i]) (by simp [hi]) fun h' hit' hs' => ?_
    refine hQ _ h' s.toks (by simp [hi]) ⟨hit', st.2.1.extBut hs'.extBut hne, ?_⟩ fun b o hb e => hs'.extBut b o (fun h => hb (by simp [h])) e
    exact hs'.extBut x1 o1 hx st.2.2
  done := fun s Q E st hQ => by
    refine hot_list_end ⟨hh, o1, vs1, st.2.2, d1, c1⟩ st.1 st.2.1 (by simp) hx fun h' he' => ?_
    exact hQ h' s.toks fun b o hb e => he' b o (fun h => hb (by simp [h])) e
  self := fun _ _ _ _ st hQ => wpAny_pyIter_listiter st.1 hQ
theorem hot_sum {prog : Program} {w : World} {A : Around} {E : Value → Shared → Prop} {s : Shared} {l x1 : Addr} {o1 : Obj} {vs1 : Array Value} {xs : Array (Int × Tok)} {Q : Value → Shared → Prop}
    (hh : A.handled = some (.ref x1)) (h1 : s.heap.get? x1 = some o1) (d1 : o1.data = .fields vs1) (c1 : vs1[2]? = some .none) (hl : s.heap.IsList l (intItems xs))
    (h : ∀ h' tk t', (∀ b o, s.heap.get? b = some o → h'.get? b = some o) → Q (.int (preSum (numAt xs) xs.size) t') { s with heap := h', toks := tk }) :
    wpAny (model prog w) A (call (.builtin "sum") [.ref l]) Q E s := by
  have hx : x1 ≠ s.heap.objs.size := Nat.ne_of_lt (Heap.lt_size h1)
  refine call_sum_walkG (iter_intList hl fun s2 e st hfp hlI => ?_)
  subst e
  have W := hot_walks (prog := prog) (w := w) (A := A.in1) (o1 := o1) hh d1 c1 s.heap.objs.size l hlI hx (intItems xs)
  refine ⟨_, _, _, _, _, _, numAt xs, rfl, W, ⟨st.1, st.2, Heap.get?_push_of_some _ h1⟩, fun b hb => ?_, (fun _ _ => intItems_at), fun h' tk t' hk => ?_⟩
  · rcases List.mem_cons.mp hb with e | hb
    · exact hfp b (by rw [e]; simp)
    · rcases List.mem_cons.mp hb with e | hb
      · exact hfp b (by rw [e]; simp)
      · rw [List.mem_singleton.mp hb]
        exact Heap.lt_size (Heap.get?_push_of_some _ h1)
  · have z := h h' tk t' fun b o e => hk b o (fun z => by
      rw [List.mem_singleton.mp z] at e
      exact absurd (Heap.lt_size e) (Nat.lt_irrefl _)) (Heap.get?_push_of_some _ e)
    simpa [intItems] using z
theorem cr_sumH {X : Cx} (hc : L2H.HotC X) : CallR X (.builtin "sum") (rSum X.K) := by
  intro pins s σ H xs us Q I r h
  obtain ⟨a, ns, rfl, hS, q⟩ := h
  obtain ⟨p, ⟨hh, v1, d1, c1⟩, hp⟩ := hc
  have hg := (I.pin p (List.mem_append_left _ hp)).1
  obtain ⟨its, rv, hl, hz⟩ := I.list hS
  cases r with
  | cons r1 rr =>
    cases rr
    cases r1
    obtain ⟨xs', hx⟩ := rv.ints.allInts.items
    have hl2 := hl.isList
    have hn := rv.ints.numsOf
    rw [hx] at hl2
    refine hot_sum hh hg d1 c1 hl2 fun h' tk t' hk => ⟨.int ns.sum, H, I.kept hk, ⟨t', ?_⟩, q⟩
    have e1 : its = (intItems xs').toList := by rw [← hx]
    rw [e1, nums_intItems] at hn
    rw [preSum_eq, List.take_of_length_le (by simp), ← hn]
end Tw
namespace Tw
open PySem PySem.Spec PyProof.Rows L2
/-- a comprehension's block where an exception is handled: the pins go along -/
abbrev blkH (X : Cx) (s : Shared) (H : Hp) (scope : Scope) (cenv : Env) (fp : List Addr) : Cx :=
  { X with s_0 := s, H_0 := H, env := cenv, outer := X.stack, ex := fp, fn := fun x => scope.names.lookup x == some .cell, xe := fun _ _ => False }
theorem blkH_ok {X : Cx} {s : Shared} {H : Hp} {scope : Scope} {cenv : Env} {fp : List Addr} (k : (X.blk s H scope cenv fp).Ok) : (blkH X s H scope cenv fp).Ok :=
  ⟨k.mod, k.kind, k.glob, k.blt, k.above, k.inj, k.has, k.cab, k.hd, k.frames, k.stk, k.exf, k.bs, k.bsz, k.noex, k.exfs, k.funs, k.frf⟩
section
variable {X : Cx}
theorem pe_lcH {elt tg iter : Expr} {ifs : List Expr} {scope : Scope} {own : List (Str × Nat)} {pos : Pos} {wi : TI} {g : TG} {tt : TT} {te : TE}
    (hot : L2H.HotC X) (hN : X.N.Nodup) (hi : L2H.PIH X tg iter wi) (ok : BlkOk X.N X.env.scope scope own)
    (hg : ∀ (s : Shared) (H : Hp) (C : Addr) (cl : List (Str × Addr)) (fp : List Addr), PG (blkH X s H scope (compEnvC scope cl C X.env) fp) tg g)
    (ht : ∀ (s : Shared) (H : Hp) (C : Addr) (cl : List (Str × Addr)) (fp : List Addr), PTs (blkH X s H scope (compEnvC scope cl C X.env) fp) ifs tt)
    (he : ∀ (s : Shared) (H : Hp) (C : Addr) (cl : List (Str × Addr)) (fp : List Addr), PE (blkH X s H scope (compEnvC scope cl C X.env) fp) elt te)
    (hs : ∀ x, foldedSetIterable iter X.env x = pure x := by intro _; rfl) :
    PE X (.ListComp elt [⟨tg, iter, ifs, 0⟩] scope pos) (tLc wi g tt te (own.map (·.2))) := by
  constructor
  intro pins s σ H Q I h
  rw [eval_ListComp]
  have fr : ∀ y ∈ scope.names, y.2 = .free → ∃ c, X.env.cells.lookup y.1 = some c := by
    intro y hy e
    rcases ok.free y hy e with k | k
    · exact I.ok.has _ (.inl k)
    · exact I.ok.has _ (.inr k)
  refine wpAny_comprehension_free rfl hs (closure_ok fr) ok.kind (fun y hy e => by rw [ok.uniq y hy, e]) ?_
  refine thn (hi.run pins s σ H _ I h) fun xv s1 hx => thn hx fun itv s2 h2 => ?_
  obtain ⟨it, fp, tn, J, H2, rfl, I2, T, st2, f2, q⟩ := h2
  refine wpAny_newObj_type (newEnv_comp ?_) (by show 0 ≤ sizeLine; decide)
  obtain ⟨D, hD⟩ : ∃ D, s2.heap.objs.size = D := ⟨_, rfl⟩
  have Dn : H2 D = none := I2.hok.fresh (Nat.le_of_eq hD)
  obtain ⟨W, ⟨m0, w0⟩, turn⟩ := q D Dn
  rw [hD]
  obtain ⟨s3, hs3⟩ : ∃ s3 : Shared, s3 = { s2 with heap := s2.heap.push { cls := .type "list", data := .seq ([] : List Value).toArray } } := ⟨_, rfl⟩
  have h3 : s3.heap = s2.heap.push { cls := .type "list", data := .seq ([] : List Value).toArray } := by rw [hs3]
  have I3 : Inv X pins σ (upd H2 D (.lst [])) s3 := by
    rw [hs3]
    refine I2.laid (t' := s2.toks) (fun b o e => Heap.get?_push_of_some _ e) (Nat.le_of_eq hD) ?_
    exact ⟨Nat.zero_le _, [], 0, .nil, by rw [← hD]; exact Heap.get?_push_size _ rfl⟩
  obtain ⟨H3, hH3⟩ : ∃ H3, H3 = upd H2 D (.lst []) := ⟨_, rfl⟩
  rw [← hH3] at I3 w0
  have low : ∀ b ∈ fp, b < s2.heap.objs.size := fun b hb => let ⟨o, e, _⟩ := T.obj _ _ st2 b hb; Heap.lt_size e
  have f3 : ∀ b ∈ fp, FpOk X pins H3 b ∧ b < s3.heap.objs.size := by
    intro b hb
    have lt := low b hb
    refine ⟨⟨?_, (f2 b hb).2⟩, ?_⟩
    · rw [hH3, upd_ne (by rw [← hD]; exact Nat.ne_of_lt lt)]
      exact (f2 b hb).1
    · rw [h3, Heap.size_push]; exact Nat.lt_succ_of_lt lt
  have st3 : tn 0 s3.heap := T.keep _ _ _ st2 fun b _ o e => by rw [h3]; exact Heap.get?_push_of_some _ e
  obtain ⟨ce, hce⟩ : ∃ ce, ce = compEnvC scope (cellsFrom (s3.heap.objs.size + 1) scope.names (cloFrom X.env.cells scope.names [])) s3.heap.objs.size X.env := ⟨_, rfl⟩
  have cL : ce.locals = s3.heap.objs.size := by rw [hce]; rfl
  have B0 := block_start I3 ok hN f3
  rw [← hce] at B0
  obtain ⟨s4, hs4⟩ : ∃ s4 : Shared, s4 = { s3 with heap := pushCells (s3.heap.push { cls := .type "dict", data := .dict #[] }) scope.names } := ⟨_, rfl⟩
  have up : ∀ b o, s3.heap.get? b = some o → s4.heap.get? b = some o := fun b o e => by
    rw [hs4]; exact pushCells_keeps _ _ _ _ (Heap.get?_push_of_some _ e)
  rw [← hs4] at B0
  -- the pins of the def stand in the block
  have pn4 : ∀ p ∈ X.pn ++ [], s4.heap.get? p.1 = some p.2 ∧ H3 p.1 = none ∧ p.1 ≠ ce.locals ∧ p.1 ∉ frs X.stack ∧ ∀ v, p.2.data ≠ .cell v := by
    intro p hp
    rw [List.append_nil] at hp
    obtain ⟨a1, a2, a3, a4, a5⟩ := I3.pin p (List.mem_append_left _ hp)
    refine ⟨up _ _ a1, a2, ?_, fun z => ?_, a5⟩
    · rw [cL]; exact Nat.ne_of_lt (Heap.lt_size a1)
    · rcases List.mem_cons.mp (I3.stkSub p.1 z) with e | z
      · exact a3 e
      · exact a4 z
  have I4 : Inv (blkH X s3 H3 scope ce fp) [] (wipe σ (own.map (·.2))) H3 s4 :=
    ⟨blkH_ok B0.ok, B0.os, B0.bare, B0.base, B0.loc, B0.cell, B0.free, B0.freeC, pn4, B0.hok, B0.len⟩
  have hotB : L2H.HotC (blkH X s3 H3 scope ce fp) := hot
  have pg : PG (blkH X s3 H3 scope ce fp) tg g := by rw [hce]; exact hg _ _ _ _ _
  have pt : PTs (blkH X s3 H3 scope ce fp) ifs tt := by rw [hce]; exact ht _ _ _ _ _
  have pe : PE (blkH X s3 H3 scope ce fp) elt te := by rw [hce]; exact he _ _ _ _ _
  have st4 : tn 0 s4.heap := T.keep _ _ _ st3 fun b _ o e => up b o e
  have fpB : ∀ {σ' : L2.St} {H' : Hp} {s' : Shared}, Inv (blkH X s3 H3 scope ce fp) [] σ' H' s' → (∀ b ∈ fp, H' b = none) → ∀ b ∈ fp, FpOk (blkH X s3 H3 scope ce fp) [] H' b := by
    intro σ' H' s' I' hn b hb
    refine ⟨hn b hb, (I'.ok.exf b hb).1, I'.ok.exfs b hb, .inl hb, fun x c e => (I'.ok.exf b hb).2 x c e, fun p hp z => ?_⟩
    rw [List.append_nil] at hp
    exact (f3 b hb).1.2.2.2.2.2 p (List.mem_append_left _ hp) z
  suffices loop : codeAny (model X.prog X.w) X.A (.compLoop (.ListComp elt [⟨tg, iter, ifs, 0⟩] scope pos) 0 (.ref it) (.ref D) ce)
      (compPost (model X.prog X.w) X.A X.xe none (EP X pins σ Q) (.ref D) s3.heap.objs.size) s4 by
    have z := codeAny_compStart_list loop (T.self X.A 0 _ _ _ st4 loop)
    subst hs4
    subst hce
    subst hs3
    exact z
  refine compLoop_any (fun n s' => ∃ i H', Inv (blkH X s3 H3 scope ce fp) [] (wipe σ (own.map (·.2))) H' s' ∧ tn i s'.heap ∧ (∀ b ∈ fp, H' b = none) ∧ W i n H') ?_ m0
    ⟨0, H3, I4, st4, fun b hb => (f3 b hb).1.1, w0⟩
  rintro n s5 ⟨i, H5, I5, st5, n5, w5⟩
  rcases turn i n H5 w5 with ⟨stop, qq⟩ | ⟨go, Nx, hNx, step⟩
  · refine thnF (T.done (blkH X s3 H3 scope ce fp) rfl rfl rfl hotB i [] s5 _ H5 (fun _ _ => False) I5 (fpB I5 n5) st5 stop) fun r s6 hr => ?_
    obtain ⟨rfl, I6⟩ := hr
    have I7 : Inv X pins σ H5 s6 := I3.call' (ch := fp) I6.os I6.base I6.hok I6.bare fun b hb =>
      ⟨(f3 b hb).1.2.2.2.1, (f3 b hb).1.2.1, (f3 b hb).1.2.2.2.2.1, (f3 b hb).1.2.2.2.2.2⟩
    have nC : H5 s3.heap.objs.size = none := by rw [← cL]; exact I6.free
    obtain ⟨m, hn, _⟩ := I6.loc
    have hn2 : s6.heap.Ns s3.heap.objs.size m := by rw [← cL]; exact hn
    obtain ⟨f0, f1, f2', f3', f4, f5⟩ := I3.fpOk (Nat.le_refl _) nC
    exact ⟨m, hn2, fun h'' sb => ⟨.ref D, H5, I7.turned (t' := s6.toks) (fun b o hb e => (sb.2 b hb).trans e) f0 f1 f3' f4 f5, rfl, qq⟩⟩
  · refine thnF (T.item (blkH X s3 H3 scope ce fp) rfl rfl rfl hotB i [] s5 _ H5 (fun _ _ => False) I5 (fpB I5 n5) st5 go) fun r s6 hr => ?_
    obtain ⟨u, rfl, h6⟩ := hr
    refine thnF h6 fun _ s7 h7 => ?_
    obtain ⟨x, H7, I7, r7, y7, st7, n7⟩ := h7
    have I7p := I7.pinned (fpB I7 n7) (T.obj _ _ st7)
    refine thnF (pg.run _ s7 _ H7 x u _ I7p r7 (step x H7 y7)) fun _ s8 h8 => ?_
    obtain ⟨σ8, H8, I8, hw8, q8⟩ := h8
    refine thnF (pt.run _ s8 σ8 H8 _ I8 q8) fun b s9 h9 => ?_
    obtain ⟨H9, I9, q9⟩ := h9
    have fin : ∀ {s' : Shared} {H' : Hp}, Inv (blkH X s3 H3 scope ce fp) ([] ++ pinsAt fp s7.heap) σ8 H' s' → Nx H' →
        ∃ m, m < n ∧ ∃ i H', Inv (blkH X s3 H3 scope ce fp) [] (wipe σ (own.map (·.2))) H' s' ∧ tn i s'.heap ∧ (∀ b ∈ fp, H' b = none) ∧ W i m H' := by
      intro s' H' I' nx
      obtain ⟨m', hm, w'⟩ := hNx H' nx
      have pin' : ∀ b ∈ fp, ∀ o, s7.heap.get? b = some o → s'.heap.get? b = some o ∧ H' b = none := by
        intro b hb o e
        have z := I'.pin (b, o) (List.mem_append_right _ (List.mem_append_right _ (mem_pinsAt hb e)))
        exact ⟨z.1, z.2.1⟩
      refine ⟨m', hm, i + 1, H', (I'.unpinned (pins := [])).weak ?_ ?_, T.keep _ _ _ st7 fun b hb o e => (pin' b hb o e).1, ?_, w'⟩
      · rw [← hw8, wipe_length]
      · intro j v e
        rw [← hw8] at e
        exact (wipe_some e).1
      · intro b hb
        obtain ⟨o, e, _⟩ := T.obj _ _ st7 b hb
        exact (pin' b hb o e).2
    cases b with
    | false =>
      rw [if_neg Bool.false_ne_true] at q9 ⊢
      exact fin I9 q9
    | true =>
      rw [if_pos rfl] at q9 ⊢
      refine thnF (pe.run _ s9 σ8 H9 _ I9 q9) fun z s10 h10 => ?_
      obtain ⟨yv, H10, I10, r10, acc, hD10, hz10, nx⟩ := h10
      exact app_ok (X := blkH X s3 H3 scope ce fp) I10 hD10 hz10 r10 fun s11 I11 => fin I11 nx
end
end Tw
namespace Tw
open PySem PySem.Spec PyProof.Rows L2
/-! ### the refusals' classes -/
structure EA where
  wrap : Addr
  nw : Addr
  lw : Addr
  ns : Addr
  tw : Addr
  tf : Addr
  tm : Addr
  np : Addr
  nwd : Addr
  fl : Addr
  nb : Addr
/-- what the written part says of the class x, at C; wr: the address of WrapError -/
structure XC (K : PySem.W.Frag) (mg : Str → Option Value) (x : Str) (C wr : Addr) : Prop where
  g : mg x = some (.ref C)
  ex : PySem.W.excIn K C [.type "ValueError", .type "Exception", .type "BaseException", .type "object"] "ValueError.__new__" = true
  kp : PySem.W.keepIn K (.ref C) = true
  b : PySem.W.subIn K (.ref C) (.type "BaseException") = some true
  t : PySem.W.typeIn K (.ref C) = some (.type "type")
  m : PySem.W.exmOne K (.ref C) (.ref wr) = some true
  ve : PySem.W.kitOne K (.ref C) (.type "ValueError") = some true
  we : PySem.W.kitOne K (.ref C) (.ref wr) = some true
  c : ExcC K C
theorem XC.mk_raise {X : Cx} {x : Str} {C wr : Addr} (c : XC X.K X.mg x C wr) {m : Str} {j : Nat} {p p2 pos : Pos} (hg : Gl X x) (hdb : (x == ("__debug__" : Str)) = false := by decide) :
    L2N.PMk X (.Call (.Name x p) [.Constant (.str m) j p2] [] pos) (fun _ H Q => Q (.ref C) none H) :=
  L2N.pmk_own PySem.F.excBase_ValueError c.ex c.g c.kp (raises_own c.b c.t) hg hdb
/-- isinstance of an instance of D against the ten classes: only the i-th is its own -/
structure Kd (K : PySem.W.Frag) (e : EA) (D : Addr) (i : Nat) : Prop where
  k0 : PySem.W.kitOne K (.ref D) (.ref e.nw) = some (i == 0)
  k1 : PySem.W.kitOne K (.ref D) (.ref e.lw) = some (i == 1)
  k2 : PySem.W.kitOne K (.ref D) (.ref e.ns) = some (i == 2)
  k3 : PySem.W.kitOne K (.ref D) (.ref e.tw) = some (i == 3)
  k4 : PySem.W.kitOne K (.ref D) (.ref e.tf) = some (i == 4)
  k5 : PySem.W.kitOne K (.ref D) (.ref e.tm) = some (i == 5)
  k6 : PySem.W.kitOne K (.ref D) (.ref e.np) = some (i == 6)
  k7 : PySem.W.kitOne K (.ref D) (.ref e.nwd) = some (i == 7)
  k8 : PySem.W.kitOne K (.ref D) (.ref e.fl) = some (i == 8)
  k9 : PySem.W.kitOne K (.ref D) (.ref e.nb) = some (i == 9)
structure Xs (K : PySem.W.Frag) (mg : Str → Option Value) (e : EA) : Prop where
  g_wrap : mg "WrapError" = some (.ref e.wrap)
  c_NoWidth : XC K mg "NoWidth" e.nw e.wrap
  c_LongWord : XC K mg "LongWord" e.lw e.wrap
  c_NoStarts : XC K mg "NoStarts" e.ns e.wrap
  c_TooWide : XC K mg "TooWide" e.tw e.wrap
  c_TooFew : XC K mg "TooFew" e.tf e.wrap
  c_TooMany : XC K mg "TooMany" e.tm e.wrap
  c_NoPlace : XC K mg "NoPlace" e.np e.wrap
  c_NoWord : XC K mg "NoWord" e.nwd e.wrap
  c_Full : XC K mg "Full" e.fl e.wrap
  c_NoWayBack : XC K mg "NoWayBack" e.nb e.wrap
  d0 : Kd K e e.nw 0
  d1 : Kd K e e.lw 1
  d2 : Kd K e e.ns 2
  d3 : Kd K e e.tw 3
  d4 : Kd K e e.tf 4
  d5 : Kd K e e.tm 5
  d6 : Kd K e e.np 6
  d7 : Kd K e e.nwd 7
  d8 : Kd K e e.fl 8
  d9 : Kd K e e.nb 9
/-- the class of a refusal by its number -/
def EA.cls (e : EA) : Nat → Addr
  | 0 => e.nw
  | 1 => e.lw
  | 2 => e.ns
  | 3 => e.tw
  | 4 => e.tf
  | 5 => e.tm
  | 6 => e.np
  | 7 => e.nwd
  | 8 => e.fl
  | _ => e.nb
theorem Xs.d {K : PySem.W.Frag} {mg : Str → Option Value} {e : EA} (x : Xs K mg e) {i : Nat} (h : i < 10) : Kd K e (e.cls i) i := by
  match i, h with
  | 0, _ => exact x.d0
  | 1, _ => exact x.d1
  | 2, _ => exact x.d2
  | 3, _ => exact x.d3
  | 4, _ => exact x.d4
  | 5, _ => exact x.d5
  | 6, _ => exact x.d6
  | 7, _ => exact x.d7
  | 8, _ => exact x.d8
  | 9, _ => exact x.d9
theorem Xs.c {K : PySem.W.Frag} {mg : Str → Option Value} {e : EA} (x : Xs K mg e) {i : Nat} (h : i < 10) :
    ExcC K (e.cls i) ∧ PySem.W.exmOne K (.ref (e.cls i)) (.ref e.wrap) = some true ∧ PySem.W.kitOne K (.ref (e.cls i)) (.type "ValueError") = some true ∧
      PySem.W.kitOne K (.ref (e.cls i)) (.ref e.wrap) = some true := by
  have go : ∀ {y : Str} {C : Addr}, XC K mg y C e.wrap → ExcC K C ∧ PySem.W.exmOne K (.ref C) (.ref e.wrap) = some true ∧ PySem.W.kitOne K (.ref C) (.type "ValueError") = some true ∧
      PySem.W.kitOne K (.ref C) (.ref e.wrap) = some true := fun z => ⟨z.c, z.m, z.ve, z.we⟩
  match i, h with
  | 0, _ => exact go x.c_NoWidth
  | 1, _ => exact go x.c_LongWord
  | 2, _ => exact go x.c_NoStarts
  | 3, _ => exact go x.c_TooWide
  | 4, _ => exact go x.c_TooFew
  | 5, _ => exact go x.c_TooMany
  | 6, _ => exact go x.c_NoPlace
  | 7, _ => exact go x.c_NoWord
  | 8, _ => exact go x.c_Full
  | 9, _ => exact go x.c_NoWayBack

/-! ### defs that may raise -/
abbrev CXn (P : Program) (w : World) : CXT := L2N.CX P w
section
variable {P : Program} {w : World} {K : PySem.W.Frag} {mg : Str → Option Value} {base : Heap}
theorem At.okX {x : Str} {ps N : List Str} {st : Stmt} {k : Nat} {sp : Sp} (A : At K mg x ps st) (S : FnScope N ps (defScope st))
    (len : ∀ vs H Q E, sp vs H Q E → vs.length = ps.length)
    (hbody : ∀ (f cdv : _) (A : Around) (outer : List Env) (s : Shared) (H : Hp) (vs : List V) (Q : VK) (E : XK),
      Room k (A.deeper (envOfC x (defScope st) s.heap.objs.size f cdv)) → sp vs H Q E →
      ∃ t, PSs (cxOf (CXn P w) P w K mg base N x (defScope st) f cdv A outer s H E) (defBody st) t ∧
        t { nx := fun _ H' => Q .non H', rt := Q } (start N vs) H) :
    Ok P w K mg base (CXn P w) (k + 1) x ps sp := by
  obtain ⟨f, fd, g, F, b⟩ := A.ex
  obtain ⟨oc, od, kV, doc, pm, an, cdv, ct, osl, e, lk, hcd⟩ := F.ex
  subst e
  exact ⟨f, _, g, F.kp, b, fn_of lk hcd S len fun A outer s H vs Q E hr hsp => hbody f cdv A outer s H vs Q E hr hsp⟩
end
theorem passN {X : Cx} : Passes (CXn X.prog X.w) X E0 := fun _ _ _ _ _ _ _ h => by
  obtain ⟨_, _, _, _, _, _, _, _, _, _, _, _, z⟩ := h
  exact z.elim
theorem takesN {X : Cx} : L2N.Takes X (fun _ _ _ _ => False) := fun _ _ x => by
  obtain ⟨_, _, _, _, _, _, _, _, _, _, _, _, _, _, _, _, z⟩ := x
  exact z.elim
theorem passR {P : Program} {w : World} {K : PySem.W.Frag} {mg : Str → Option Value} {base : Heap} {N : List Str} {q : Str} {sc : Scope} {f : Addr} {cd : Value} {A : Around} {outer : List Env} {s : Shared} {H : Hp} {E : XK} :
    Passes (CXn P w) (cxOf (CXn P w) P w K mg base N q sc f cd A outer s H E) E :=
  L2N.passes_call (L2N.takes_of rfl rfl rfl rfl) fun _ _ _ _ h => h

/-! ### a def called with the exception that is handled -/
theorem call_isP {X : Cx} {D : Addr} {p : Addr × Obj} (C : ExcC X.K D) (hz : Zc (.ref D) none p.2) (hf : ∃ vs, p.2.data = .fields vs) (hp : p ∈ X.pn) :
    CallR X (.builtin "isinstance") (rIsE X.K D p.1) := by
  intro pins s σ H xs us Q I r h
  obtain ⟨c, cv, b, rfl, hcv, e, q⟩ := h
  obtain ⟨u1, u2, rfl, r1, r2⟩ := vals2 r
  cases r1
  have ec := hcv _ r2
  subst ec
  have hget := (I.pin p (List.mem_append_left _ hp)).1
  obtain ⟨vs, hv⟩ := hf
  obtain ⟨a, oe⟩ := p
  obtain ⟨oc, od, oda, osl⟩ := oe
  obtain ⟨h1, h2⟩ := hz
  dsimp only at h1 h2 hv hget ⊢
  subst h1 h2 hv
  refine PySem.W.kia_one (PySem.W.handS_kitx_exc C.hg C.hk C.hs C.hd C.ha C.hn C.ht C.hm) I.kIn ⟨hget, rfl, rfl, trivial⟩ e (fun z => nomatch z) ?_
  exact fun tk => ⟨.bl b, H, I.kept (t' := tk) fun _ _ z => z, rfl, q⟩
/-- in a suite: isinstance of what is handled, whatever class it has -/
theorem call_isQ {X : Cx} {a : Addr} {oe : Obj} {cls : Value} {d : Option Addr} {pn : List (Addr × Obj)} (hz : L2N.Zn cls d oe) (hf : ∃ vs, oe.data = .fields vs) :
    CallR (X.suite a ((a, oe) :: pn)) (.builtin "isinstance") (fun xs H Q => ∃ D c cv b, cls = .ref D ∧ d = none ∧ ExcC X.K D ∧ xs = [.ref a, c] ∧ (∀ u, RelV c u → u = cv) ∧
      PySem.W.kitOne X.K (.ref D) cv = some b ∧ Q (.bl b) H) := by
  intro pins s σ H xs us Q I r h
  obtain ⟨D, c, cv, b, rfl, rfl, hc, e1, e2, e3, q⟩ := h
  exact call_isP (X := X.suite a ((a, oe) :: pn)) (p := (a, oe)) hc hz.zc hf List.mem_cons_self pins s σ H xs us Q I r ⟨c, cv, b, e1, e2, e3, q⟩
/-- what such a def gives: the number n for an instance of D -/
structure KindFn (P : Program) (w : World) (K : PySem.W.Frag) (mg : Str → Option Value) (base : Heap) (k : Nat) (f : Addr) (fd : FuncData) (x : Str) (D : Addr) (n : Int) : Prop where
  run : ∀ (A : Around) (outer : List Env) (s : Shared) (H : Hp) (args : Args) (E : XK) (p : Addr × Obj) (Q : VK), L2H.RoomH k A → L2H.Hot1 A p → L2H.PinOk outer H s p → Zc (.ref D) none p.2 →
    Env0 P w K mg base A outer s H → BindsTo s fd args [(x, .ref p.1)] → (∀ H', Same H H' → Q (.int n) H') → codeAny (model P w) A (.call (.ref f) args) (CR CX0 outer P w H s Q E) s
theorem kindFn_of {P : Program} {w : World} {K : PySem.W.Frag} {mg : Str → Option Value} {base : Heap} {k : Nat} {f : Addr} {x y : Str} {st : Stmt} {N : List Str} {D : Addr} {n : Int} {fd : FuncData}
    (F : Fun K x x st f fd) (S : FnScope N [y] (defScope st))
    (body : ∀ (cdv : Value) (A : Around) (outer : List Env) (s : Shared) (H : Hp) (E : XK) (p : Addr × Obj) (Q : VK), L2H.Hot1 A p → Zc (.ref D) none p.2 → L2H.RoomH k (A.deeper (envOfC x (defScope st) s.heap.objs.size f cdv)) →
      (∀ H', Same H H' → Q (.int n) H') →
      ∃ t, PSs (L2H.cxH CX0 P w K mg base N x (defScope st) f cdv A outer s H E p) (defBody st) t ∧ t { nx := fun _ H' => Q .non H', rt := Q } (L2.start N [.ref p.1]) H) :
    KindFn P w K mg base (k + 1) f fd y D n := by
  obtain ⟨oc, od, kV, doc, pm, an, cdv, ct, osl, e, lk, hcd⟩ := F.ex
  subst e
  refine ⟨fun A outer s H args E p Q hr hot hpin hz e0 hb hq => ?_⟩
  obtain ⟨t, ht, hq2⟩ := body cdv A outer s H E p Q hot hz (hr.deeper _) hq
  have rv : Vals [V.ref p.1] [Value.ref p.1] := .cons rfl .nil
  have keep : ∀ b o, base.get? b = some o → s.heap.get? b = some o := fun b o e => (e0.bs b o e).1
  have par : ∀ z ∈ ([y] : List Str).zip [Value.ref p.1], (defScope st).names.lookup z.1 = some .local ∨
      ((defScope st).names.lookup z.1 = some .cell ∧ ((cellsFrom (s.heap.objs.size + 1) (defScope st).names []).lookup z.1).isSome = true) := by
    rintro ⟨m, v⟩ hm
    rcases S.par m (List.of_mem_zip hm).1 with g | g
    · exact .inl g
    · exact .inr ⟨g, PySem.W.cellsFrom_some _ _ _ (.inl g)⟩
  have KX := e0.mod.kin.keeps keep
  refine codeAny_call_function hr.depth (KX _ _ lk) rfl S.co S.gen rfl (PySem.W.codeRec_of KX hcd) ?_
  refine hb _ _ _ _ ?_
  refine wpAny_newFunctionEnv_cells S.kind par fun env he s1 xx => ?_
  subst he
  refine ⟨(e0.mod.nolimit.keeps keep).keeps xx.toInCall.keep, codeAny_func ?_⟩
  have I := L2H.inv_startH (CX := CX0) (E := E) (P := P) (mg := mg) (f := f) (cd := cdv) (qual := x) S hpin e0 (vs := [V.ref p.1]) rfl rv xx
  refine wpAny_mono (ht.run [] s1 _ H _ I hq2) (fun fl s' hs => ?_) fun e s' hs => hs
  cases fl with
  | ret u =>
    obtain ⟨v, σ', H', J, rw', q⟩ := hs
    exact ⟨v, H', J.os, J.bare, J.base, J.hok, rw', q⟩
  | next =>
    obtain ⟨σ', H', J, q⟩ := hs
    exact ⟨.non, H', J.os, J.bare, J.base, J.hok, rfl, q⟩
  | brk => exact hs.elim fun _ z => z.elim fun _ z => False.elim z.2
  | cont => exact hs.elim fun _ z => z.elim fun _ z => False.elim z.2
/-- .. for each of the ten classes -/
structure Kinds (P : Program) (w : World) (K : PySem.W.Frag) (mg : Str → Option Value) (base : Heap) (e : EA) (k : Nat) (x y : Str) : Prop where
  ex : ∃ f fd, mg x = some (.ref f) ∧ PySem.W.keepIn K (.ref f) = true ∧ Binds K fd [y] [] ∧ ∀ i, i < 10 → KindFn P w K mg base k f fd y (e.cls i) (11 + i)
/-- its call in a suite -/
theorem pe_kind {X : Cx} {a : Addr} {oe : Obj} {cls : Value} {d : Option Addr} {pn : List (Addr × Obj)} {ea : EA} {k j : Nat} {x y : Str} {e : Expr} {t : TA} {q pos : Pos}
    (G : Kinds X.prog X.w X.K X.mg X.base ea k x y) (hr : Room j X.A) (hkj : k ≤ j) (hz : L2N.Zn cls d oe) (hf : ∃ vs, oe.data = .fields vs)
    (ha : PA (X.suite a ((a, oe) :: pn)) [e] t) (hg : Gl (X.suite a ((a, oe) :: pn)) x := by rfl) (hdb : (x == ("__debug__" : Str)) = false := by decide)
    (he : starEach (e :: []) (X.suite a ((a, oe) :: pn)).env = (false, eval e (X.suite a ((a, oe) :: pn)).env) :: starEach [] (X.suite a ((a, oe) :: pn)).env := by rfl)
    (hpl : (backTo pos (starEach [] (X.suite a ((a, oe) :: pn)).env)).any (·.1) = false := by rfl) :
    PE (X.suite a ((a, oe) :: pn)) (.Call (.Name x q) [e] [] pos)
      (fun σ H Q => t σ H fun vs H1 => ∃ i, i < 10 ∧ cls = .ref (ea.cls i) ∧ d = none ∧ vs = [.ref a] ∧ ∀ H', Same H1 H' → Q (.int (11 + (i : Nat))) H') := by
  obtain ⟨f, fd, gf, kp, hb, G⟩ := G.ex
  constructor
  intro pins s σ H Q I h
  refine wpAny_Call_Name_kw (ld_glob I hg gf ?_ hdb)
  refine PySem.W.callWith_K (h₀ := X.base) I.ok.mod.kin kp (thn (ha.run pos pins s σ H _ I h) fun us s1 hh => ?_) he hpl
  obtain ⟨vs, H1, I1, rv, i, hi, rfl, rfl, rfl, hq⟩ := hh
  refine ⟨I1.kIn, ?_⟩
  cases rv with
  | cons r1 rr =>
    cases rr
    cases r1
    have b := hb s1 [Value.ref a] I1.kIn rfl
    have P1 := I1.pin (a, oe) (List.mem_append_left _ List.mem_cons_self)
    have hpin : L2H.PinOk (X.suite a ((a, oe) :: pn)).stack H1 s1 (a, oe) := by
      refine ⟨P1.1, P1.2.1, fun hm => ?_, P1.2.2.2.2⟩
      rcases List.mem_cons.mp (I1.stkSub a hm) with z | z
      · exact P1.2.2.1 z
      · exact P1.2.2.2.1 z
    obtain ⟨v1, hv1⟩ := hf
    have hot : L2H.Hot1 (X.suite a ((a, oe) :: pn)).A (a, oe) := ⟨rfl, v1, hv1, hz.2.2 v1 hv1⟩
    have R := (G i hi).run (X.suite a ((a, oe) :: pn)).A (X.suite a ((a, oe) :: pn)).stack s1 H1 ⟨[.ref a], []⟩ E0 (a, oe) Q ((L2H.roomH_of hr).mono hkj |> fun z => ⟨z.dp, z.un⟩) hot hpin hz.zc I1.env0 b hq
    refine wpAny_call (codeAny_mono R fun r s' hq' => ?_)
    cases r with
    | error e => exact hq'.elim
    | ok fl =>
      cases fl with
      | ret u => exact I1.after hq'
      | next => exact hq'.elim
      | brk => exact hq'.elim
      | cont => exact hq'.elim
end Tw
namespace Tw
open PySem PySem.Spec PyProof.Rows L2
theorem kit_ref {K : PySem.W.Frag} {D C : Addr} {b : Bool} (hb : D = C → b = true) (h1 : (PySem.W.clsIn K C).isSome = true) (h2 : PySem.W.typeIn K (.ref C) = some (.type "type"))
    (h3 : PySem.W.subIn K (.ref D) (.ref C) = some b) : PySem.W.kitOne K (.ref D) (.ref C) = some b := by
  unfold PySem.W.kitOne
  by_cases e : D = C
  · subst e
    rw [if_pos (by simp), hb rfl]
  · rw [if_neg (fun z => e (Value.ref.inj (eq_of_beq z)))]
    simp only [PySem.W.kitCls, h1, h2, h3]
    first | rfl | simp
theorem kit_type {K : PySem.W.Frag} {D : Addr} {n : String} {b : Bool} (h1 : PySem.W.kitMeta n = true) (h3 : PySem.W.subIn K (.ref D) (.type n) = some b) : PySem.W.kitOne K (.ref D) (.type n) = some b := by
  unfold PySem.W.kitOne
  rw [if_neg (fun z => by cases eq_of_beq z)]
  simp only [PySem.W.kitCls, h1, h3]
  first | rfl | simp
theorem xc_mk {K : PySem.W.Frag} {h : Heap} {mg : Str → Option Value} {x : Str} {C wr : Addr} (X : K.In h) (G : h.Ns mainGlobals mg)
    (a : PySem.W.nsIn K mainGlobals x = some (some (.ref C)))
    (ex : PySem.W.excIn K C [.type "ValueError", .type "Exception", .type "BaseException", .type "object"] "ValueError.__new__" = true)
    (kp : PySem.W.keepIn K (.ref C) = true) (b : PySem.W.subIn K (.ref C) (.type "BaseException") = some true) (t : PySem.W.typeIn K (.ref C) = some (.type "type"))
    (m1 : PySem.W.subIn K (.ref wr) (.type "BaseException") = some true) (m2 : PySem.W.hasDictIn K wr = true) (m3 : PySem.W.typeIn K (.ref wr) = some (.type "type")) (m4 : PySem.W.subIn K (.ref C) (.ref wr) = some true)
    (ve : PySem.W.subIn K (.ref C) (.type "ValueError") = some true) (wc : (PySem.W.clsIn K wr).isSome = true)
    (g1 : PySem.W.findIn K (.ref C) "__getattribute__" = some (some (.builtin "BaseException.__getattribute__"))) (g2 : PySem.W.findIn K (.ref C) "__getattr__" = some none)
    (g4 : PySem.W.hasDictIn K C = true) (g5 : PySem.W.findIn K (.ref C) "__class__" = some (some (.builtin "object.__class__")))
    (g6 : PySem.W.specialIn K (.builtin "object.__class__") "__get__" = some (some (.builtin "getset_descriptor.__get__"))) (g7 : PySem.W.takesIn K (.builtin "object.__class__") = some true)
    (g8 : PySem.W.mroIn K C (.type "object") = some true) : XC K mg x C wr :=
  ⟨PySem.W.mg_of X G a, ex, kp, b, t, PySem.W.exm_ref m1 m2 m3 m4, kit_type (by decide +kernel) ve, kit_ref (fun _ => rfl) wc m3 m4, ⟨g1, g2, b, g4, g5, g6, g7, g8⟩⟩
structure Sd (K : PySem.W.Frag) (e : EA) (D : Addr) (i : Nat) : Prop where
  k0 : PySem.W.subIn K (.ref D) (.ref e.nw) = some (i == 0)
  k1 : PySem.W.subIn K (.ref D) (.ref e.lw) = some (i == 1)
  k2 : PySem.W.subIn K (.ref D) (.ref e.ns) = some (i == 2)
  k3 : PySem.W.subIn K (.ref D) (.ref e.tw) = some (i == 3)
  k4 : PySem.W.subIn K (.ref D) (.ref e.tf) = some (i == 4)
  k5 : PySem.W.subIn K (.ref D) (.ref e.tm) = some (i == 5)
  k6 : PySem.W.subIn K (.ref D) (.ref e.np) = some (i == 6)
  k7 : PySem.W.subIn K (.ref D) (.ref e.nwd) = some (i == 7)
  k8 : PySem.W.subIn K (.ref D) (.ref e.fl) = some (i == 8)
  k9 : PySem.W.subIn K (.ref D) (.ref e.nb) = some (i == 9)
theorem cls_some {K : PySem.W.Frag} {C : Addr} (h : PySem.W.hasDictIn K C = true) : (PySem.W.clsIn K C).isSome = true := by
  obtain ⟨cd, hc, _⟩ := PySem.W.any_some h
  rw [hc]; rfl
theorem kit_refX {K : PySem.W.Frag} {mg : Str → Option Value} {x : Str} {D C wr : Addr} {b : Bool} (c : XC K mg x C wr) (dg : PySem.W.subIn K (.ref C) (.ref C) = some true)
    (h3 : PySem.W.subIn K (.ref D) (.ref C) = some b) : PySem.W.kitOne K (.ref D) (.ref C) = some b := by
  refine kit_ref (fun e => ?_) (cls_some c.c.hd) c.t h3
  subst e
  rw [dg] at h3
  exact (Option.some.inj h3).symm
theorem xs_mk {K : PySem.W.Frag} {h : Heap} {mg : Str → Option Value} {wr a0 a1 a2 a3 a4 a5 a6 a7 a8 a9 : Addr} (X : K.In h) (G : h.Ns mainGlobals mg)
    (w : PySem.W.nsIn K mainGlobals "WrapError" = some (some (.ref wr)))
    (c0 : XC K mg "NoWidth" a0 wr)
    (c1 : XC K mg "LongWord" a1 wr)
    (c2 : XC K mg "NoStarts" a2 wr)
    (c3 : XC K mg "TooWide" a3 wr)
    (c4 : XC K mg "TooFew" a4 wr)
    (c5 : XC K mg "TooMany" a5 wr)
    (c6 : XC K mg "NoPlace" a6 wr)
    (c7 : XC K mg "NoWord" a7 wr)
    (c8 : XC K mg "Full" a8 wr)
    (c9 : XC K mg "NoWayBack" a9 wr)
    (d0 : Sd K ⟨wr, a0, a1, a2, a3, a4, a5, a6, a7, a8, a9⟩ a0 0)
    (d1 : Sd K ⟨wr, a0, a1, a2, a3, a4, a5, a6, a7, a8, a9⟩ a1 1)
    (d2 : Sd K ⟨wr, a0, a1, a2, a3, a4, a5, a6, a7, a8, a9⟩ a2 2)
    (d3 : Sd K ⟨wr, a0, a1, a2, a3, a4, a5, a6, a7, a8, a9⟩ a3 3)
    (d4 : Sd K ⟨wr, a0, a1, a2, a3, a4, a5, a6, a7, a8, a9⟩ a4 4)
    (d5 : Sd K ⟨wr, a0, a1, a2, a3, a4, a5, a6, a7, a8, a9⟩ a5 5)
    (d6 : Sd K ⟨wr, a0, a1, a2, a3, a4, a5, a6, a7, a8, a9⟩ a6 6)
    (d7 : Sd K ⟨wr, a0, a1, a2, a3, a4, a5, a6, a7, a8, a9⟩ a7 7)
    (d8 : Sd K ⟨wr, a0, a1, a2, a3, a4, a5, a6, a7, a8, a9⟩ a8 8)
    (d9 : Sd K ⟨wr, a0, a1, a2, a3, a4, a5, a6, a7, a8, a9⟩ a9 9)
    : Xs K mg ⟨wr, a0, a1, a2, a3, a4, a5, a6, a7, a8, a9⟩ := by
  have kd : ∀ {D : Addr} {i : Nat}, Sd K ⟨wr, a0, a1, a2, a3, a4, a5, a6, a7, a8, a9⟩ D i → Kd K ⟨wr, a0, a1, a2, a3, a4, a5, a6, a7, a8, a9⟩ D i := fun s => ⟨kit_refX c0 d0.k0 s.k0, kit_refX c1 d1.k1 s.k1, kit_refX c2 d2.k2 s.k2, kit_refX c3 d3.k3 s.k3, kit_refX c4 d4.k4 s.k4, kit_refX c5 d5.k5 s.k5, kit_refX c6 d6.k6 s.k6, kit_refX c7 d7.k7 s.k7, kit_refX c8 d8.k8 s.k8, kit_refX c9 d9.k9 s.k9⟩
  exact ⟨PySem.W.mg_of X G w, c0, c1, c2, c3, c4, c5, c6, c7, c8, c9, kd d0, kd d1, kd d2, kd d3, kd d4, kd d5, kd d6, kd d7, kd d8, kd d9⟩
end Tw
namespace Tw
open PySem PySem.Spec PyProof.Rows L2
/-! ### words -/
/-- a drawn word -/
structure Wd (w : List Nat) : Prop where
  ne : w ≠ []
  le : w.length ≤ 300
  sg : ∀ c ∈ w, 33 ≤ c ∧ c ≤ 126
theorem Wd.plain {w : List Nat} (h : Wd w) : plainTx w := fun c hc => by have := h.sg c hc; omega
theorem Wd.pos {w : List Nat} (h : Wd w) : 1 ≤ w.length := by
  have := h.ne
  cases w with
  | nil => exact absurd rfl this
  | cons _ _ => simp
theorem rep_sign (c n : Nat) : (List.replicate n [c]).flatten = List.replicate n c := by
  induction n with
  | zero => rfl
  | succ n ih => rw [List.replicate_succ, List.flatten_cons, ih, List.replicate_succ]; rfl
theorem wd_flatten {ws : List (List Nat)} (h1 : 1 ≤ ws.length) (h2 : ws.length ≤ 300) (h : ∀ x ∈ ws, x.length = 1 ∧ ∀ c ∈ x, 33 ≤ c ∧ c ≤ 126) : Wd ws.flatten := by
  have hl : ws.flatten.length = ws.length := by
    rw [List.length_flatten]
    have : ws.map List.length = ws.map fun _ => 1 := List.map_congr_left fun x hx => (h x hx).1
    rw [this, List.map_const', List.sum_replicate_nat]
    omega
  refine ⟨fun e => ?_, by omega, fun c hc => ?_⟩
  · rw [e] at hl; simp at hl; omega
  · obtain ⟨x, hx, hc⟩ := List.mem_flatten.mp hc
    exact (h x hx).2 c hc
/-- a list of drawn words -/
def Wds (ws : List (List Nat)) : Prop := ws.length ≤ 1600 ∧ ∀ x ∈ ws, Wd x
theorem Wds.flat {ws : List (List Nat)} (h : Wds ws) : (vts ws).all flat = true := flat_vts fun x hx => (h.2 x hx).plain
theorem total_le {ws : List (List Nat)} {b : Nat} (h : ∀ x ∈ ws, x.length ≤ b) : total ws ≤ ws.length * b := by
  induction ws with
  | nil => simp [total]
  | cons w r ih =>
    have h1 := ih fun x hx => h x (List.mem_cons_of_mem _ hx)
    have h2 := h w List.mem_cons_self
    simp only [total, List.map_cons, List.sum_cons, List.length_cons, Nat.succ_mul] at h1 ⊢
    omega
/-- the size of a line of words -/
def lsz (ws : List (List Nat)) : Nat := total ws + (ws.length - 1)
theorem jn_sp : ∀ ws : List (List Nat), (jn [32] ws).length = lsz ws
  | [] => rfl
  | [p] => by simp [jn, lsz, total]
  | p :: q :: r => by
    have h := jn_sp (q :: r)
    show (p ++ ([32] ++ jn [32] (q :: r))).length = _
    rw [List.length_append, List.length_append, h]
    simp only [lsz, total, List.map_cons, List.sum_cons, List.length_cons, List.length_nil]
    omega
/-- the words from a on, up to b -/
def seg (ws : List (List Nat)) (a b : Nat) : List (List Nat) := (ws.drop a).take (b - a)
def size (ws : List (List Nat)) (a b : Nat) : Nat := lsz (seg ws a b)
theorem total_app (a b : List (List Nat)) : total (a ++ b) = total a + total b := by simp [total]
theorem seg_length (ws : List (List Nat)) {a b : Nat} (hb : b ≤ ws.length) : (seg ws a b).length = b - a := by
  unfold seg
  rw [List.length_take, List.length_drop]
  omega
theorem seg_snoc (ws : List (List Nat)) {a b : Nat} (hab : a ≤ b) (hb : b < ws.length) : seg ws a (b + 1) = seg ws a b ++ [ws[b]] := by
  unfold seg
  have e : b + 1 - a = (b - a) + 1 := by omega
  rw [e, List.take_add_one, List.getElem?_drop]
  have e2 : a + (b - a) = b := by omega
  rw [e2, List.getElem?_eq_getElem hb]
  rfl
theorem size_snoc (ws : List (List Nat)) {a b : Nat} (hab : a < b) (hb : b < ws.length) : size ws a (b + 1) = size ws a b + 1 + ws[b].length := by
  unfold size lsz
  have l1 := seg_length ws (a := a) (b := b) (by omega)
  rw [seg_snoc ws (by omega) hb, total_app, List.length_append, l1]
  simp only [total, List.map_cons, List.map_nil, List.sum_cons, List.sum_nil, List.length_cons, List.length_nil]
  omega
theorem size_one (ws : List (List Nat)) {a : Nat} (h : a < ws.length) : size ws a (a + 1) = ws[a].length := by
  unfold size lsz
  rw [seg_snoc ws (Nat.le_refl a) h]
  have e : seg ws a a = [] := by unfold seg; simp
  rw [e]
  simp [total]
theorem size_zero (ws : List (List Nat)) (a : Nat) : size ws a a = 0 := by
  unfold size seg lsz
  simp [total]
/-- the longest word's size -/
def longest (ws : List (List Nat)) : Nat := ws.foldl (fun m w => max m w.length) 0
theorem longest_app (a : List (List Nat)) (w : List Nat) : longest (a ++ [w]) = max (longest a) w.length := by
  simp [longest]
theorem longest_ge {ws : List (List Nat)} {w : List Nat} (hw : w ∈ ws) : w.length ≤ longest ws := by
  have key : ∀ (ws : List (List Nat)) (m : Nat), m ≤ ws.foldl (fun m w => max m w.length) m ∧ ∀ w ∈ ws, w.length ≤ ws.foldl (fun m w => max m w.length) m := by
    intro ws
    induction ws with
    | nil => intro m; exact ⟨Nat.le_refl _, fun _ h => by cases h⟩
    | cons x r ih =>
      intro m
      obtain ⟨h1, h2⟩ := ih (max m x.length)
      refine ⟨Nat.le_trans (Nat.le_max_left _ _) h1, fun w hw => ?_⟩
      rcases List.mem_cons.mp hw with e | hw
      · rw [e]; exact Nat.le_trans (Nat.le_max_right _ _) h1
      · exact h2 w hw
  exact (key ws 0).2 w hw
theorem longest_le {ws : List (List Nat)} {b : Nat} (h : ∀ w ∈ ws, w.length ≤ b) : longest ws ≤ b := by
  have key : ∀ (ws : List (List Nat)) (m : Nat), m ≤ b → (∀ w ∈ ws, w.length ≤ b) → ws.foldl (fun m w => max m w.length) m ≤ b := by
    intro ws
    induction ws with
    | nil => intro m hm _; exact hm
    | cons x r ih =>
      intro m hm h
      exact ih _ (Nat.max_le.mpr ⟨hm, h x List.mem_cons_self⟩) fun w hw => h w (List.mem_cons_of_mem _ hw)
  exact key ws 0 (Nat.zero_le _) h
theorem longest_wds {ws : List (List Nat)} (h : Wds ws) : longest ws ≤ 300 := longest_le fun w hw => (h.2 w hw).le
/-- of bounded words: sums fit -/
theorem seg_mem {ws : List (List Nat)} {a b : Nat} {x : List Nat} (h : x ∈ seg ws a b) : x ∈ ws := List.mem_of_mem_drop (List.mem_of_mem_take h)
theorem size_bound {ws : List (List Nat)} (h : Wds ws) (a b : Nat) : size ws a b ≤ 481600 := by
  unfold size lsz
  have l : (seg ws a b).length ≤ 1600 := by
    unfold seg
    rw [List.length_take, List.length_drop]
    have := h.1
    omega
  have t : total (seg ws a b) ≤ (seg ws a b).length * 300 := total_le fun x hx => (h.2 x (seg_mem hx)).le
  omega
end Tw
namespace Tw
open PySem PySem.Spec PyProof.Rows L2
/-- words that fit in memory, of signs that are signs -/
structure Bw (ws : List (List Nat)) : Prop where
  le : ws.length ≤ 100000
  tot : total ws ≤ 10000000
  pl : ∀ x ∈ ws, plainTx x
theorem Wds.bw {ws : List (List Nat)} (h : Wds ws) : Bw ws :=
  ⟨by have := h.1; omega, by have := total_le (b := 300) fun x hx => (h.2 x hx).le; have := h.1; omega, fun x hx => (h.2 x hx).plain⟩
theorem Bw.flat {ws : List (List Nat)} (h : Bw ws) : (vts ws).all flat = true := flat_vts h.pl
theorem Bw.wl {ws : List (List Nat)} (h : Bw ws) {x : List Nat} (hx : x ∈ ws) : x.length ≤ 10000000 := by
  have h1 : x.length ≤ total ws := le_sum_mem (List.mem_map.mpr ⟨x, hx, rfl⟩)
  have := h.tot
  omega
theorem total_take (ws : List (List Nat)) (n : Nat) : total (ws.take n) ≤ total ws := by
  have h := total_app (ws.take n) (ws.drop n)
  rw [List.take_append_drop] at h
  omega
theorem total_drop (ws : List (List Nat)) (n : Nat) : total (ws.drop n) ≤ total ws := by
  have h := total_app (ws.take n) (ws.drop n)
  rw [List.take_append_drop] at h
  omega
theorem total_seg (ws : List (List Nat)) (a b : Nat) : total (seg ws a b) ≤ total ws := Nat.le_trans (total_take _ _) (total_drop _ _)
theorem seg_le (ws : List (List Nat)) (a b : Nat) : (seg ws a b).length ≤ ws.length := by
  unfold seg
  rw [List.length_take, List.length_drop]
  omega
theorem Bw.size {ws : List (List Nat)} (h : Bw ws) (a b : Nat) : size ws a b ≤ 10100000 := by
  have h1 := total_seg ws a b
  have h2 := seg_le ws a b
  have := h.le
  have := h.tot
  unfold Tw.size lsz
  omega
theorem Bw.take {ws : List (List Nat)} (h : Bw ws) (n : Nat) : Bw (ws.take n) :=
  ⟨by rw [List.length_take]; have := h.le; omega, by have := total_take ws n; have := h.tot; omega, fun x hx => h.pl x (List.mem_of_mem_take hx)⟩
theorem Wds.take {ws : List (List Nat)} (h : Wds ws) (n : Nat) : Wds (ws.take n) :=
  ⟨by rw [List.length_take]; have := h.1; omega, fun x hx => h.2 x (List.mem_of_mem_take hx)⟩
/-- a joined line's length -/
theorem sum_tx (ws : List (List Nat)) : ((ws.map tx).map (·.length)).sum = total ws := by
  unfold total
  rw [List.map_map]
  exact congrArg List.sum (List.map_congr_left fun x _ => tx_len x)
theorem map_vt (ws : List (List Nat)) : (ws.map tx).map V.str = vts ws := by
  rw [List.map_map]; rfl
/-- the place of the first word that is longer -/
def vlong (ws : List (List Nat)) (n : Int) : V := match ws.findIdx? (fun w => decide (n < (w.length : Int))) with
  | none => .non
  | some k => .int k
theorem vlong_some {ws : List (List Nat)} {n : Int} {i : Nat} (hi : i < ws.length) (h1 : ∀ j (h : j < i), ((ws[j]'(by omega)).length : Int) ≤ n) (h2 : n < (ws[i].length : Int)) : vlong ws n = .int i := by
  have e : ws.findIdx? (fun w => decide (n < (w.length : Int))) = some i := by
    rw [List.findIdx?_eq_some_iff_getElem]
    refine ⟨hi, decide_eq_true h2, fun j hj => ?_⟩
    have := h1 j hj
    simp only [decide_eq_true_eq]
    omega
  unfold vlong
  rw [e]
theorem vlong_none {ws : List (List Nat)} {n : Int} (h : ∀ w ∈ ws, (w.length : Int) ≤ n) : vlong ws n = .non := by
  have e : ws.findIdx? (fun w => decide (n < (w.length : Int))) = none := by
    rw [List.findIdx?_eq_none_iff]
    intro w hw
    have := h w hw
    exact decide_eq_false (by omega)
  unfold vlong
  rw [e]
theorem vlong_cases (ws : List (List Nat)) (n : Int) : (vlong ws n = .non ∧ ∀ w ∈ ws, (w.length : Int) ≤ n) ∨ (∃ k : Nat, k < ws.length ∧ vlong ws n = .int k ∧ ∃ w ∈ ws, n < (w.length : Int)) := by
  unfold vlong
  cases e : ws.findIdx? (fun w => decide (n < (w.length : Int))) with
  | none =>
    refine .inl ⟨rfl, fun w hw => ?_⟩
    have := (List.findIdx?_eq_none_iff.mp e) w hw
    have := of_decide_eq_false this
    omega
  | some k =>
    obtain ⟨hk, h1, _⟩ := List.findIdx?_eq_some_iff_getElem.mp e
    exact .inr ⟨k, hk, rfl, ws[k], List.getElem_mem hk, of_decide_eq_true h1⟩
end Tw
namespace Tw
open PySem PySem.Spec PyProof.Rows L2
/-! ### starts of lines -/
/-- from place a on, starts of lines of n words -/
def Ch (n : Nat) : Nat → List Nat → Prop
  | a, [] => a = n
  | a, b :: r => b = a ∧ ∃ e, a < e ∧ e ≤ n ∧ Ch n e r
def toI (ks : List Nat) : List Int := ks.map fun k => ((k : Nat) : Int)
def good (ss : List Int) (n : Nat) : Prop := ∃ ks : List Nat, ss = toI ks ∧ Ch n 0 ks
/-- begins and ends of the lines -/
def pairs (n : Nat) (ks : List Nat) : List (Nat × Nat) := ks.zip (ks.drop 1 ++ [n])
theorem toI_inj {a b : List Nat} (h : toI a = toI b) : a = b := by
  induction a generalizing b with
  | nil => cases b with
    | nil => rfl
    | cons y s => cases h
  | cons x r ih =>
    cases b with
    | nil => cases h
    | cons y s =>
      have h' : ((x : Nat) : Int) = (y : Nat) ∧ toI r = toI s := by
        have := List.cons.inj h
        exact this
      rw [ih h'.2, Int.ofNat_inj.mp h'.1]
theorem toI_length (ks : List Nat) : (toI ks).length = ks.length := List.length_map _
theorem toI_get {ks : List Nat} {k x : Nat} (h : ks[k]? = some x) : (toI ks)[k]? = some (x : Int) := by unfold toI; rw [List.getElem?_map, h]; rfl
theorem toI_app (a b : List Nat) : toI (a ++ b) = toI a ++ toI b := List.map_append
theorem toI_drop (a : List Nat) (k : Nat) : (toI a).drop k = toI (a.drop k) := by unfold toI; rw [List.map_drop]
theorem Ch.le {n : Nat} : ∀ {ks : List Nat} {a : Nat}, Ch n a ks → a ≤ n
  | [], a, h => Nat.le_of_eq h
  | b :: r, a, h => by obtain ⟨_, e, h1, h2, _⟩ := h; omega
theorem pairs_length (n : Nat) (ks : List Nat) : (pairs n ks).length = ks.length := by
  unfold pairs; rw [List.length_zip, List.length_append, List.length_drop, List.length_singleton]; omega
theorem pairs_one (n a : Nat) : pairs n [a] = [(a, n)] := rfl
theorem pairs_cons (n a b : Nat) (r : List Nat) : pairs n (a :: b :: r) = (a, b) :: pairs n (b :: r) := rfl
theorem pairs_get {n : Nat} {ks : List Nat} {k : Nat} {p : Nat × Nat} (h : (pairs n ks)[k]? = some p) : ks[k]? = some p.1 ∧ (ks.drop 1 ++ [n])[k]? = some p.2 := by
  unfold pairs at h
  exact List.getElem?_zip_eq_some.mp h
theorem Ch.pairs {n : Nat} : ∀ {ks : List Nat} {a : Nat}, Ch n a ks → ∀ p ∈ Tw.pairs n ks, a ≤ p.1 ∧ p.1 < p.2 ∧ p.2 ≤ n
  | [], a, _, p, hp => nomatch hp
  | [b], a, h, p, hp => by
    obtain ⟨rfl, e, h1, h2, h3⟩ := h
    rw [pairs_one, List.mem_singleton] at hp
    subst hp
    have : e = n := h3
    subst this
    exact ⟨Nat.le_refl _, h1, h2⟩
  | b :: c :: r, a, h, p, hp => by
    obtain ⟨rfl, e, h1, h2, h3⟩ := h
    rw [pairs_cons] at hp
    have hc : c = e := h3.1
    rcases List.mem_cons.mp hp with z | z
    · subst z; exact ⟨Nat.le_refl _, by omega, by omega⟩
    · have := Ch.pairs h3 p z
      exact ⟨by omega, this.2⟩
theorem Ch.lt {n : Nat} {ks : List Nat} {a : Nat} (h : Ch n a ks) {k : Nat} (hk : k ∈ ks) : k < n := by
  obtain ⟨i, hi, rfl⟩ := List.mem_iff_getElem.mp hk
  have hp : i < (Tw.pairs n ks).length := by rw [pairs_length]; exact hi
  have := pairs_get (List.getElem?_eq_getElem hp)
  rw [List.getElem?_eq_getElem hi] at this
  have h2 := h.pairs _ (List.getElem_mem hp)
  have h3 := Option.some.inj this.1
  omega
theorem Ch.len {n : Nat} : ∀ {ks : List Nat} {a : Nat}, Ch n a ks → a + ks.length ≤ n
  | [], a, h => Nat.le_of_eq h
  | b :: r, a, h => by obtain ⟨_, e, h1, h2, h3⟩ := h; have := Ch.len h3; rw [List.length_cons]; omega
/-- what the tests look at -/
def asc : List Int → Prop
  | x :: y :: r => x < y ∧ asc (y :: r)
  | _ => True
theorem asc_ix : ∀ ss : List Int, asc ss ↔ ∀ k (h : k + 1 < ss.length), ss[k] < ss[k + 1]
  | [] => ⟨fun _ k h => by simp at h, fun _ => trivial⟩
  | [x] => ⟨fun _ k h => by simp at h, fun _ => trivial⟩
  | x :: y :: r => by
    constructor
    · intro h k hk
      cases k with
      | zero => exact h.1
      | succ k => exact (asc_ix (y :: r)).mp h.2 k (by simpa using hk)
    · intro h
      exact ⟨h 0 (by simp), (asc_ix (y :: r)).mpr fun k hk => h (k + 1) (by simpa using hk)⟩
theorem asc_ch : ∀ {r : List Int} {a n : Nat}, asc ((a : Int) :: r) → ((a : Int) :: r).getLast (by simp) < (n : Int) → ∃ ks, ((a : Int) :: r) = toI ks ∧ Ch n a ks
  | [], a, n, _, h2 => ⟨[a], rfl, rfl, n, by
      have : (a : Int) < n := h2
      omega, Nat.le_refl _, rfl⟩
  | y :: r, a, n, h1, h2 => by
    have h3 : (a : Int) < y := h1.1
    obtain ⟨b, rfl⟩ : ∃ b : Nat, y = (b : Int) := ⟨y.toNat, by omega⟩
    obtain ⟨ks, e, c⟩ := asc_ch (r := r) (a := b) (n := n) h1.2 (by simpa using h2)
    exact ⟨a :: ks, by rw [e]; rfl, rfl, b, by omega, c.le, c⟩
theorem ch_asc {n : Nat} : ∀ {ks : List Nat} {a : Nat}, Ch n a ks → asc (toI ks)
  | [], a, _ => trivial
  | [b], a, _ => trivial
  | b :: c :: r, a, h => by
    obtain ⟨rfl, e, h1, h2, h3⟩ := h
    have hc : c = e := h3.1
    exact ⟨show ((b : Nat) : Int) < (c : Nat) by omega, ch_asc h3⟩
theorem good_nil (n : Nat) : good [] n ↔ n = 0 := by
  constructor
  · rintro ⟨ks, h1, h2⟩
    cases ks with
    | nil => have : 0 = n := h2; omega
    | cons x r => cases h1
  · rintro rfl; exact ⟨[], rfl, rfl⟩
theorem good_cons (ss : List Int) (hne : ss ≠ []) (n : Nat) : good ss n ↔ ss.head hne = 0 ∧ ss.getLast hne < (n : Int) ∧ ∀ k (h : k + 1 < ss.length), ss[k] < ss[k + 1] := by
  rw [← asc_ix]
  constructor
  · rintro ⟨ks, rfl, h2⟩
    have ha := ch_asc h2
    cases ks with
    | nil => exact absurd rfl hne
    | cons b r =>
      refine ⟨by have := h2.1; subst this; rfl, ?_, ha⟩
      have hm := List.getLast_mem hne
      obtain ⟨k, hk, e⟩ := List.mem_map.mp hm
      rw [← e]
      have := h2.lt hk
      show ((k : Nat) : Int) < n
      omega
  · rintro ⟨h1, h2, h3⟩
    cases ss with
    | nil => exact absurd rfl hne
    | cons x r =>
      have hx : x = ((0 : Nat) : Int) := h1
      subst hx
      exact asc_ch h3 h2
theorem atI_neg1 {α : Type} {xs : List α} (h : xs ≠ []) : atI xs (-1) = some (xs.getLast h) := by
  have e := List.dropLast_concat_getLast h
  have := atI_last xs.dropLast (xs.getLast h)
  rw [e] at this
  exact this
theorem vis_last {ss : List Int} (h : ss ≠ []) : atI (vis ss) (-1) = some (V.int (ss.getLast h)) := by
  have hv : vis ss ≠ [] := fun z => h (List.map_eq_nil_iff.mp z)
  rw [atI_neg1 hv, List.getLast_map]
theorem ends_vis (ks : List Nat) (n : Nat) : vis ((toI ks).drop 1) ++ [V.int (n : Nat)] = vis (toI (ks.drop 1 ++ [n])) := by
  rw [toI_drop, toI_app]; exact (vis_app _ _).symm
/-! ### sums -/
/-- the squared gap of a line -/
def pr (ws : List (List Nat)) (wd : Int) (a e : Nat) : Int := if e = ws.length then 0 else (wd - (size ws a e : Nat)) * (wd - (size ws a e : Nat))
def sm (ws : List (List Nat)) (wd : Int) (ks : List Nat) : Int := ((pairs ws.length ks).map fun p => pr ws wd p.1 p.2).sum
def lns (ws : List (List Nat)) (ks : List Nat) : List (List Nat) := (pairs ws.length ks).map fun p => jn [32] (seg ws p.1 p.2)
theorem lns_length (ws : List (List Nat)) (ks : List Nat) : (lns ws ks).length = ks.length := by unfold lns; rw [List.length_map, pairs_length]
theorem pr_nonneg (ws : List (List Nat)) (wd : Int) (a e : Nat) : 0 ≤ pr ws wd a e := by
  unfold pr; split
  · exact Int.le_refl _
  · generalize wd - ((size ws a e : Nat) : Int) = z
    rcases Int.le_total 0 z with h | h
    · exact Int.mul_nonneg h h
    · exact Int.mul_nonneg_of_nonpos_of_nonpos h h
/-- an operation's answer, told otherwise -/
theorem rI_at {R : Int → Int → Prop} {g : Int → Int → V} {i j : Int} {v : V} {H : Hp} {Q : VK} (hv : g i j = v) (hc : R i j) (q : Q v H) : rI R g (.int i) (.int j) H Q := ⟨i, j, rfl, rfl, hc, by rw [hv]; exact q⟩
theorem rI0_at {g : Int → Int → V} {i j : Int} {v : V} {H : Hp} {Q : VK} (hv : g i j = v) (q : Q v H) : rI0 g (.int i) (.int j) H Q := ⟨i, j, rfl, rfl, by rw [hv]; exact q⟩
end Tw
namespace Tw
open PySem PySem.Spec PyProof.Rows L2
/-! ### widths, greatest sizes, sums -/
def Wb (n : Int) : Prop := n.natAbs < 2 ^ 120
theorem Wb.sub {n : Int} (h : Wb n) {k : Nat} (hk : k ≤ 100000000) : (n - (k : Nat)).natAbs < 2 ^ 121 := by unfold Wb at h; omega
theorem Wb.mul {n : Int} (h : Wb n) {k : Nat} (hk : k ≤ 100000000) : CMulW (n - (k : Nat)) (n - (k : Nat)) := wide_mul (h.sub hk) (h.sub hk) (by decide) (by decide) (by decide)
theorem Wb.pow {n : Int} (h : Wb n) {k : Nat} (hk : k ≤ 100000000) : (Builtin.Int.intBits (n - (k : Nat)) : Int) * 2 ≤ 2 ^ 27 := by
  have := intBits_le_iff.mpr (h.sub hk)
  omega
theorem Wb.sm {n : Int} (h1 : -1000000000 ≤ n) (h2 : n ≤ 10 ^ 30 + 1000000000) : Wb n := by unfold Wb; omega
theorem pow_two' (i : Int) : i ^ (2 : Int).toNat = i * i := by
  show i ^ 2 = i * i
  rw [Int.pow_succ, Int.pow_succ, Int.pow_zero, Int.one_mul]
def mx (l : List Nat) : Nat := l.foldl max 0
theorem mx_app (l : List Nat) (x : Nat) : mx (l ++ [x]) = max (mx l) x := by unfold mx; rw [List.foldl_append]; rfl
theorem mx_from (l : List Nat) (m : Nat) : l.foldl max m = max m (mx l) := by
  induction l generalizing m with
  | nil => simp [mx]
  | cons x r ih =>
    show r.foldl max (max m x) = max m (r.foldl max (max 0 x))
    rw [ih, ih (max 0 x)]; omega
theorem mx_cons (l : List Nat) (x : Nat) : mx (x :: l) = max x (mx l) := by
  show l.foldl max (max 0 x) = _
  rw [mx_from]; omega
theorem mx_ge {l : List Nat} {x : Nat} (h : x ∈ l) : x ≤ mx l := by
  induction l with
  | nil => cases h
  | cons y r ih =>
    rw [mx_cons]
    rcases List.mem_cons.mp h with z | z
    · omega
    · have := ih z; omega
theorem mx_le {l : List Nat} {b : Nat} (h : ∀ x ∈ l, x ≤ b) : mx l ≤ b := by
  induction l with
  | nil => exact Nat.zero_le _
  | cons y r ih =>
    rw [mx_cons]
    have := ih fun x hx => h x (List.mem_cons_of_mem _ hx)
    have := h y (List.mem_cons_self ..)
    omega
/-- the greatest of the lines' sizes -/
def gr (ws : List (List Nat)) (ks : List Nat) : Nat := mx ((pairs ws.length ks).map fun p => size ws p.1 p.2)
theorem gr_ge {ws : List (List Nat)} {ks : List Nat} {p : Nat × Nat} (h : p ∈ pairs ws.length ks) : size ws p.1 p.2 ≤ gr ws ks := mx_ge (List.mem_map.mpr ⟨p, h, rfl⟩)
theorem gr_le {ws : List (List Nat)} {ks : List Nat} {b : Nat} (h : ∀ p ∈ pairs ws.length ks, size ws p.1 p.2 ≤ b) : gr ws ks ≤ b := mx_le fun x hx => by
  obtain ⟨p, hp, rfl⟩ := List.mem_map.mp hx
  exact h p hp
/-- sums, line by line -/
def smTo (ws : List (List Nat)) (wd : Int) (ks : List Nat) (i : Nat) : Int := (((pairs ws.length ks).take i).map fun p => pr ws wd p.1 p.2).sum
theorem smTo_all (ws : List (List Nat)) (wd : Int) (ks : List Nat) : smTo ws wd ks ks.length = sm ws wd ks := by
  unfold smTo sm; rw [List.take_of_length_le (by rw [pairs_length]; exact Nat.le_refl _)]
theorem smTo_succ {ws : List (List Nat)} {wd : Int} {ks : List Nat} {i : Nat} {p : Nat × Nat} (h : (pairs ws.length ks)[i]? = some p) : smTo ws wd ks (i + 1) = smTo ws wd ks i + pr ws wd p.1 p.2 := by
  unfold smTo; rw [List.take_add_one, h, Option.toList_some, List.map_append, List.sum_append]; simp
def grTo (ws : List (List Nat)) (ks : List Nat) (i : Nat) : Nat := mx (((pairs ws.length ks).take i).map fun p => size ws p.1 p.2)
theorem grTo_all (ws : List (List Nat)) (ks : List Nat) : grTo ws ks ks.length = gr ws ks := by
  unfold grTo gr; rw [List.take_of_length_le (by rw [pairs_length]; exact Nat.le_refl _)]
theorem grTo_succ {ws : List (List Nat)} {ks : List Nat} {i : Nat} {p : Nat × Nat} (h : (pairs ws.length ks)[i]? = some p) : grTo ws ks (i + 1) = max (grTo ws ks i) (size ws p.1 p.2) := by
  unfold grTo; rw [List.take_add_one, h, Option.toList_some, List.map_append, List.map_singleton, mx_app]
theorem pr_last {ws : List (List Nat)} {wd : Int} {a e : Nat} (h : e = ws.length) : pr ws wd a e = 0 := if_pos h
theorem pr_gap {ws : List (List Nat)} {wd : Int} {a e : Nat} (h : ¬ e = ws.length) : pr ws wd a e = (wd - (size ws a e : Nat)) * (wd - (size ws a e : Nat)) := if_neg h
theorem mxI (i j : Nat) : (if ((j : Nat) : Int) > (i : Nat) then ((j : Nat) : Int) else ((i : Nat) : Int)) = ((max i j : Nat) : Int) := by split <;> omega
end Tw
namespace Tw
open PySem PySem.Spec PyProof.Rows L2
/-! ### while loops: no law about the test is wanted -/
theorem while_N {c : TT} {tb : TS} {D : Ends} {σ : L2.St} {H : Hp} (Pv : L2.St → Hp → Prop) (μ : L2.St → Hp → Nat) (h0 : Pv σ H)
    (hs : ∀ σ H, Pv σ H → c σ H fun b H1 => if b = true then ∃ N : L2.St → Hp → Prop, (∀ σ' H', N σ' H' → ∃ m', m' < μ σ H ∧ (m' = μ σ' H' ∧ Pv σ' H')) ∧ tb { D with nx := N, ct := N, bk := D.nx } σ H1 else D.nx σ H1) :
    tWhile c tb D σ H := ⟨fun m σ H => m = μ σ H ∧ Pv σ H, ⟨_, rfl, h0⟩, by rintro m σ H ⟨rfl, p⟩; exact hs σ H p⟩
/-! ### sizes by sums of what stands ahead -/
theorem total_seg_P (ws : List (List Nat)) {a c : Nat} (h : a ≤ c) : total (ws.take a) + total (seg ws a c) = total (ws.take c) := by
  have : ws.take c = ws.take a ++ seg ws a c := by
    unfold seg
    have h1 : c = a + (c - a) := by omega
    conv => lhs; rw [h1]
    rw [List.take_add]
  rw [this, total_app]
theorem size_P (ws : List (List Nat)) {a c : Nat} (h : a < c) (hc : c ≤ ws.length) : size ws a c + total (ws.take a) = total (ws.take c) + (c - a - 1) := by
  unfold size lsz
  have := total_seg_P ws (Nat.le_of_lt h)
  rw [seg_length ws hc]
  omega
theorem P_mono (ws : List (List Nat)) {a c : Nat} (h : a ≤ c) : total (ws.take a) ≤ total (ws.take c) := by have := total_seg_P ws h; omega
theorem size_mono {ws : List (List Nat)} {a b c d : Nat} (h1 : b ≤ a) (h2 : a < c) (h3 : c ≤ d) (h4 : d ≤ ws.length) : size ws a c ≤ size ws b d := by
  have e1 := size_P ws h2 (by omega)
  have e2 := size_P ws (show b < d by omega) h4
  have e3 := P_mono ws h1
  have e4 := P_mono ws h3
  omega
/-! ### lines that fit -/
def Fc (ws : List (List Nat)) (wd : Int) : Nat → List Nat → Prop
  | a, [] => a = ws.length
  | a, b :: r => b = a ∧ ∃ e, a < e ∧ e ≤ ws.length ∧ ((size ws a e : Nat) : Int) ≤ wd ∧ Fc ws wd e r
theorem Fc.ch {ws : List (List Nat)} {wd : Int} : ∀ {ks : List Nat} {a : Nat}, Fc ws wd a ks → Ch ws.length a ks
  | [], _, h => h
  | _ :: _, _, h => by obtain ⟨h1, e, h2, h3, _, h5⟩ := h; exact ⟨h1, e, h2, h3, h5.ch⟩
theorem Fc.fits {ws : List (List Nat)} {wd : Int} : ∀ {ks : List Nat} {a : Nat}, Fc ws wd a ks → ∀ p ∈ pairs ws.length ks, ((size ws p.1 p.2 : Nat) : Int) ≤ wd
  | [], _, _, p, hp => nomatch hp
  | [b], a, h, p, hp => by
    obtain ⟨rfl, e, h2, h3, h4, h5⟩ := h
    rw [pairs_one, List.mem_singleton] at hp
    subst hp
    have : e = ws.length := h5
    subst this
    exact h4
  | b :: c :: r, a, h, p, hp => by
    obtain ⟨rfl, e, h2, h3, h4, h5⟩ := h
    rw [pairs_cons] at hp
    have hc : c = e := h5.1
    rcases List.mem_cons.mp hp with z | z
    · subst z; subst hc; exact h4
    · exact Fc.fits h5 p z
/-- all words fit -/
def Ft (ws : List (List Nat)) (wd : Int) : Prop := 1 ≤ wd ∧ ∀ w ∈ ws, (w.length : Int) ≤ wd
theorem Ft.one {ws : List (List Nat)} {wd : Int} (h : Ft ws wd) {a : Nat} (ha : a < ws.length) : ((size ws a (a + 1) : Nat) : Int) ≤ wd := by
  rw [size_one ws ha]; exact h.2 _ (List.getElem_mem ha)
theorem Ft.of {ws : List (List Nat)} {wd : Int} (h1 : 1 ≤ wd) (h2 : ((longest ws : Nat) : Int) ≤ wd) : Ft ws wd := ⟨h1, fun w hw => by have := longest_ge hw; omega⟩
theorem Ft.vlong {ws : List (List Nat)} {wd : Int} (h : Ft ws wd) : vlong ws wd = .non := vlong_none h.2
/-! ### quick starts -/
def Qk (ws : List (List Nat)) (wd : Int) : Nat → List Nat → Prop
  | a, [] => a = ws.length
  | a, b :: r => b = a ∧ ∃ e, a < e ∧ e ≤ ws.length ∧ ((size ws a e : Nat) : Int) ≤ wd ∧ (e = ws.length ∨ wd < ((size ws a (e + 1) : Nat) : Int)) ∧ Qk ws wd e r
theorem Qk.fc {ws : List (List Nat)} {wd : Int} : ∀ {ks : List Nat} {a : Nat}, Qk ws wd a ks → Fc ws wd a ks
  | [], _, h => h
  | _ :: _, _, h => by obtain ⟨h1, e, h2, h3, h4, _, h5⟩ := h; exact ⟨h1, e, h2, h3, h4, h5.fc⟩
theorem Qk.next {ws : List (List Nat)} {wd : Int} : ∀ {ks : List Nat} {a : Nat}, Qk ws wd a ks → ∀ (k x y : Nat), ks[k]? = some x → ks[k + 1]? = some y → wd < ((size ws x (y + 1) : Nat) : Int)
  | [], _, _, k, x, y, h, _ => by simp at h
  | [b], _, _, k, x, y, _, h => by simp at h
  | b :: c :: r, a, h, k, x, y, hx, hy => by
    obtain ⟨rfl, e, h2, h3, h4, h5, h6⟩ := h
    cases k with
    | zero =>
      have hc : c = e := h6.1
      obtain ⟨_, e', g1, g2, _⟩ := h6
      cases hx; cases hy
      subst hc
      rcases h5 with z | z
      · omega
      · exact z
    | succ k => exact Qk.next h6 k x y hx hy
theorem Qk.least {ws : List (List Nat)} {wd : Int} : ∀ {ks os : List Nat} {a b : Nat}, b ≤ a → Qk ws wd a ks → Fc ws wd b os → ks.length ≤ os.length ∧ ∀ (k x y : Nat), ks[k]? = some x → os[k]? = some y → y ≤ x
  | [], os, a, b, _, _, _ => ⟨Nat.zero_le _, fun k x y h => by simp at h⟩
  | x0 :: r, [], a, b, hb, h, g => by
    obtain ⟨_, e, h2, h3, _⟩ := h
    have : b = ws.length := g
    omega
  | x0 :: r, y0 :: t, a, b, hb, h, g => by
    obtain ⟨rfl, e, h2, h3, h4, h5, h6⟩ := h
    obtain ⟨rfl, e', g2, g3, g4, g5⟩ := g
    have he : e' ≤ e := by
      rcases h5 with z | z
      · omega
      · rcases Nat.lt_or_ge e e' with l | l
        · have := size_mono (ws := ws) hb (show x0 < e + 1 by omega) (show e + 1 ≤ e' by omega) g3
          omega
        · exact l
    obtain ⟨i1, i2⟩ := Qk.least he h6 g5
    refine ⟨Nat.succ_le_succ i1, fun k x y hx hy => ?_⟩
    cases k with
    | zero => cases hx; cases hy; exact hb
    | succ k => exact i2 k x y hx hy
/-! ### the table -/
/-- the greatest end that leads to the least sum -/
def Best (ws : List (List Nat)) (wd : Int) (T : Nat → Int) (a e : Nat) : Prop := a < e ∧ e ≤ ws.length ∧ ((size ws a e : Nat) : Int) ≤ wd ∧
  ∀ e', a < e' → e' ≤ ws.length → ((size ws a e' : Nat) : Int) ≤ wd → pr ws wd a e + T e ≤ pr ws wd a e' + T e' ∧ (pr ws wd a e + T e = pr ws wd a e' + T e' → e' ≤ e)
def Tab (ws : List (List Nat)) (wd : Int) (T : Nat → Int) : Prop := T ws.length = 0 ∧ ∀ a, a < ws.length → ∃ e, Best ws wd T a e ∧ T a = pr ws wd a e + T e
theorem Best.only {ws : List (List Nat)} {wd : Int} {T : Nat → Int} {a e e' : Nat} (h : Best ws wd T a e) (h' : Best ws wd T a e') : e = e' := by
  have h1 := h.2.2.2 e' h'.1 h'.2.1 h'.2.2.1
  have h2 := h'.2.2.2 e h.1 h.2.1 h.2.2.1
  have h3 := h1.2 (by omega)
  have h4 := h2.2 (by omega)
  omega
/-- starts that a table leads to -/
def Bc (ws : List (List Nat)) (wd : Int) (T : Nat → Int) : Nat → List Nat → Prop
  | a, [] => a = ws.length
  | a, b :: r => b = a ∧ ∃ e, Best ws wd T a e ∧ Bc ws wd T e r
theorem Bc.fc {ws : List (List Nat)} {wd : Int} {T : Nat → Int} : ∀ {ks : List Nat} {a : Nat}, Bc ws wd T a ks → Fc ws wd a ks
  | [], _, h => h
  | _ :: _, _, h => by obtain ⟨h1, e, hb, h5⟩ := h; exact ⟨h1, e, hb.1, hb.2.1, hb.2.2.1, h5.fc⟩
theorem Bc.only {ws : List (List Nat)} {wd : Int} {T : Nat → Int} : ∀ {ks os : List Nat} {a : Nat}, Bc ws wd T a ks → Bc ws wd T a os → ks = os
  | [], [], _, _, _ => rfl
  | [], y :: s, a, h, g => by
    obtain ⟨_, e, hb, _⟩ := g
    have : a = ws.length := h
    have := hb.1; have := hb.2.1
    omega
  | x :: r, [], a, h, g => by
    obtain ⟨_, e, hb, _⟩ := h
    have : a = ws.length := g
    have := hb.1; have := hb.2.1
    omega
  | x :: r, y :: s, a, h, g => by
    obtain ⟨rfl, e, hb, h5⟩ := h
    obtain ⟨rfl, e', hb', g5⟩ := g
    have := hb.only hb'
    subst this
    rw [Bc.only h5 g5]
/-- sums line by line from a start on -/
theorem sm_one (ws : List (List Nat)) (wd : Int) (a : Nat) : sm ws wd [a] = pr ws wd a ws.length := by unfold sm; rw [pairs_one]; simp
theorem sm_cons (ws : List (List Nat)) (wd : Int) (a b : Nat) (r : List Nat) : sm ws wd (a :: b :: r) = pr ws wd a b + sm ws wd (b :: r) := by
  unfold sm; rw [pairs_cons, List.map_cons, List.sum_cons]
theorem sm_step {ws : List (List Nat)} {wd : Int} {a e : Nat} {r : List Nat} (h : Ch ws.length e r) : sm ws wd (a :: r) = pr ws wd a e + sm ws wd r := by
  cases r with
  | nil =>
    have : e = ws.length := h
    subst this
    rw [sm_one]; simp [sm, pairs]
  | cons c t =>
    have : c = e := h.1
    subst this
    exact sm_cons ..
theorem Tab.sum {ws : List (List Nat)} {wd : Int} {T : Nat → Int} (t : Tab ws wd T) : ∀ {ks : List Nat} {a : Nat}, Bc ws wd T a ks → sm ws wd ks = T a
  | [], a, h => by
    have : a = ws.length := h
    subst this
    rw [t.1]; rfl
  | x :: r, a, h => by
    obtain ⟨rfl, e, hb, h5⟩ := h
    rw [sm_step h5.fc.ch, Tab.sum t h5]
    obtain ⟨e', hb', he⟩ := t.2 x (by have := hb.1; have := hb.2.1; omega)
    rw [he, hb.only hb']
theorem Tab.le {ws : List (List Nat)} {wd : Int} {T : Nat → Int} (t : Tab ws wd T) : ∀ {os : List Nat} {a : Nat}, Fc ws wd a os → T a ≤ sm ws wd os
  | [], a, h => by
    have : a = ws.length := h
    subst this
    rw [t.1]; exact Int.le_refl _
  | x :: r, a, h => by
    obtain ⟨rfl, e, h2, h3, h4, h5⟩ := h
    rw [sm_step h5.ch]
    have := Tab.le t h5
    obtain ⟨e', hb', he⟩ := t.2 x (by omega)
    have := (hb'.2.2.2 e h2 h3 h4).1
    omega
/-- which of two lists of numbers goes first -/
def lexLt : List Int → List Int → Bool
  | [], [] => false
  | [], _ :: _ => true
  | _ :: _, [] => false
  | x :: r, y :: s => decide (x < y) || (decide (x = y) && lexLt r s)
theorem Tab.tie {ws : List (List Nat)} {wd : Int} {T : Nat → Int} (t : Tab ws wd T) : ∀ {ks os : List Nat} {a : Nat}, Bc ws wd T a ks → Fc ws wd a os → sm ws wd os = T a →
    lexLt (toI (ks ++ [ws.length])) (toI (os ++ [ws.length])) = false
  | [], [], a, h, g, _ => by show lexLt [((ws.length : Nat) : Int)] [((ws.length : Nat) : Int)] = false; simp [lexLt]
  | [], y :: s, a, h, g, _ => by
    obtain ⟨_, e, g1, g2, _⟩ := g
    have : a = ws.length := h
    omega
  | x :: r, [], a, h, g, _ => by
    obtain ⟨_, e, hb, _⟩ := h
    have : a = ws.length := g
    have := hb.1; have := hb.2.1
    omega
  | x :: r, y :: s, a, h, g, hs => by
    obtain ⟨rfl, e, hb, h5⟩ := h
    obtain ⟨rfl, e', g2, g3, g4, g5⟩ := g
    rw [sm_step g5.ch] at hs
    have h6 := Tab.le t g5
    obtain ⟨e2, hb', he⟩ := t.2 y (by omega)
    have := hb.only hb'
    subst this
    have h7 := hb.2.2.2 e' g2 g3 g4
    have h8 : e' ≤ e := h7.2 (by omega)
    show (decide (((y : Nat) : Int) < (y : Nat)) || (decide (((y : Nat) : Int) = (y : Nat)) && lexLt (toI (r ++ [ws.length])) (toI (s ++ [ws.length])))) = false
    rw [decide_eq_false (Int.lt_irrefl _), Bool.false_or, decide_eq_true rfl, Bool.true_and]
    rcases Nat.lt_or_eq_of_le h8 with z | z
    · have f1 : ∃ r', toI (r ++ [ws.length]) = (e : Int) :: r' := by
        cases r with
        | nil => have : e = ws.length := h5; subst this; exact ⟨[], rfl⟩
        | cons c r' => have : c = e := h5.1; subst this; exact ⟨_, rfl⟩
      have f2 : ∃ s', toI (s ++ [ws.length]) = (e' : Int) :: s' := by
        cases s with
        | nil => have : e' = ws.length := g5; subst this; exact ⟨[], rfl⟩
        | cons c s' => have : c = e' := g5.1; subst this; exact ⟨_, rfl⟩
      obtain ⟨r', f1⟩ := f1
      obtain ⟨s', f2⟩ := f2
      rw [f1, f2]
      unfold lexLt
      rw [decide_eq_false (by omega), decide_eq_false (by omega)]; rfl
    · subst z
      exact Tab.tie t h5 g5 (by omega)
end Tw
namespace Tw
open PySem PySem.Spec PyProof.Rows L2
/-! ### < on lists of ints -/
theorem firstLt_map (e r : Nat → Bool) (z : Bool) (f : Nat → Nat) : ∀ l : List Nat, SeqAt.firstLt e r z (l.map f) = SeqAt.firstLt (fun j => e (f j)) (fun j => r (f j)) z l
  | [] => rfl
  | j :: t => by
    show (if e (f j) = true then SeqAt.firstLt e r z (t.map f) else r (f j)) = (if e (f j) = true then SeqAt.firstLt (fun j => e (f j)) (fun j => r (f j)) z t else r (f j))
    rw [firstLt_map e r z f t]
theorem firstLt_lex : ∀ ns ms : List Int, SeqAt.firstLt (fun j => decide (ns.getD j 0 = ms.getD j 0)) (fun j => decide (ns.getD j 0 < ms.getD j 0)) (decide (ns.length < ms.length)) (List.range (min ns.length ms.length)) = lexLt ns ms
  | [], [] => rfl
  | [], y :: s => by simp [SeqAt.firstLt, lexLt]
  | x :: r, [] => by simp [SeqAt.firstLt, lexLt]
  | x :: r, y :: s => by
    have ih := firstLt_lex r s
    have e1 : min (x :: r).length (y :: s).length = min r.length s.length + 1 := by simp only [List.length_cons]; omega
    have e2 : decide ((x :: r).length < (y :: s).length) = decide (r.length < s.length) := by simp only [List.length_cons, decide_eq_decide]; omega
    rw [e1, e2, List.range_succ_eq_map]
    show (if decide (x = y) = true then SeqAt.firstLt _ _ _ (List.map Nat.succ (List.range (min r.length s.length))) else decide (x < y)) = lexLt (x :: r) (y :: s)
    rw [firstLt_map]
    show (if decide (x = y) = true then SeqAt.firstLt (fun j => decide (r.getD j 0 = s.getD j 0)) (fun j => decide (r.getD j 0 < s.getD j 0)) (decide (r.length < s.length)) (List.range (min r.length s.length)) else decide (x < y)) = (decide (x < y) || (decide (x = y) && lexLt r s))
    rw [ih]
    by_cases h : x = y
    · subst h
      rw [decide_eq_true rfl, if_pos rfl, decide_eq_false (Int.lt_irrefl x)]; simp
    · rw [decide_eq_false h, if_neg Bool.false_ne_true]; simp
def rLtL (K : PySem.W.Frag) : R2 := fun x y H Q => ∃ (a b : Addr) (ns ms : List Int), x = .ref a ∧ y = .ref b ∧ SqL K H a (vis ns) ∧ SqL K H b (vis ms) ∧ Q (.bl (lexLt ns ms)) H
theorem op_ltL {X : Cx} {k : Nat} (hr : Room k X.A) : OpR X (compareOp .Lt) (rLtL X.K) := by
  intro pins s σ H x y v u Q I rx ry h
  obtain ⟨a, b, ns, ms, rfl, rfl, ha, hb, q⟩ := h
  cases rx
  cases ry
  obtain ⟨its, r1, p1, _⟩ := I.list ha
  obtain ⟨its2, r2, p2, _⟩ := I.list hb
  have i1 : IntsAre its ns := Vals.ints r1
  have i2 : IntsAre its2 ms := Vals.ints r2
  have e1 : its.toArray.size = ns.length := by rw [List.size_toArray]; exact i1.length
  have e2 : its2.toArray.size = ms.length := by rw [List.size_toArray]; exact i2.length
  have at1 : ∀ j (h1 : j < its.toArray.size), ∃ t, its.toArray[j] = .int (ns.getD j 0) t := fun j h1 => PyProof.Rows.IntsAre.int_at i1 _ _ (by simp at h1; simp [h1])
  have at2 : ∀ j (h1 : j < its2.toArray.size), ∃ t, its2.toArray[j] = .int (ms.getD j 0) t := fun j h1 => PyProof.Rows.IntsAre.int_at i2 _ _ (by simp at h1; simp [h1])
  have R := SeqAt.RcLt.lists (A := X.A) (s := s) (e := fun j => decide (ns.getD j 0 = ms.getD j 0)) (r := fun j => decide (ns.getD j 0 < ms.getD j 0)) p1.isList p2.isList (by have := hr.units; omega) (fun j h1 h2 => by
    obtain ⟨t, et⟩ := at1 j h1
    obtain ⟨t', et'⟩ := at2 j h2
    rw [et, et']
    have z : (ns.getD j 0 == ms.getD j 0) = decide (ns.getD j 0 = ms.getD j 0) := by
      by_cases q : ns.getD j 0 = ms.getD j 0
      · rw [decide_eq_true q]; exact beq_iff_eq.mpr q
      · rw [decide_eq_false q]; exact beq_eq_false_iff_ne.mpr q
    rw [← z]
    exact SeqAt.EqAt.int_int _ _ _ _) (fun j h1 h2 _ => by
    obtain ⟨t, et⟩ := at1 j h1
    obtain ⟨t', et'⟩ := at2 j h2
    rw [et, et']
    exact fun _ _ _ _ h => PyProof.Rows.lt_int h)
  rw [e1, e2, firstLt_lex] at R
  have z : wpAny (model X.prog X.w) X.A (compareOp .Lt (.ref a) (.ref b)) (EP X pins σ Q) X.xe s := R X.prog X.w X.xe (EP X pins σ Q) ⟨.bl _, H, I, rfl, q⟩
  exact z
end Tw
namespace Tw
open PySem PySem.Spec PyProof.Rows L2
/-! ### layers: the least sums of just so many lines -/
/-- the greatest end of a fitting line that leads to the least sum by a layer -/
def BestL (ws : List (List Nat)) (wd : Int) (L : Nat → Option Int) (a e : Nat) : Prop := a < e ∧ e ≤ ws.length ∧ ((size ws a e : Nat) : Int) ≤ wd ∧ ∃ v, L e = some v ∧
  ∀ e' v', a < e' → e' ≤ ws.length → ((size ws a e' : Nat) : Int) ≤ wd → L e' = some v' → pr ws wd a e + v ≤ pr ws wd a e' + v' ∧ (pr ws wd a e + v = pr ws wd a e' + v' → e' ≤ e)
def NoneL (ws : List (List Nat)) (wd : Int) (L : Nat → Option Int) (a : Nat) : Prop := ∀ e', a < e' → e' ≤ ws.length → ((size ws a e' : Nat) : Int) ≤ wd → L e' = none
/-- the next layer -/
def NextL (ws : List (List Nat)) (wd : Int) (L M : Nat → Option Int) : Prop := M ws.length = none ∧ ∀ a, a < ws.length → (M a = none ∧ NoneL ws wd L a) ∨ ∃ e v, BestL ws wd L a e ∧ L e = some v ∧ M a = some (pr ws wd a e + v)
def Lay0 (ws : List (List Nat)) (L : Nat → Option Int) : Prop := L ws.length = some 0 ∧ ∀ a, a < ws.length → L a = none
structure Lays (ws : List (List Nat)) (wd : Int) (m : Nat) (L : Nat → Nat → Option Int) : Prop where
  zero : Lay0 ws (L 0)
  next : ∀ k, k < m → NextL ws wd (L k) (L (k + 1))
theorem Lays.le {ws : List (List Nat)} {wd : Int} {m : Nat} {L : Nat → Nat → Option Int} (l : Lays ws wd m L) : ∀ {os : List Nat} {a : Nat}, Fc ws wd a os → os.length ≤ m → ∃ v, L os.length a = some v ∧ v ≤ sm ws wd os
  | [], a, h, _ => by
    have : a = ws.length := h
    subst this
    exact ⟨0, l.zero.1, Int.le_refl _⟩
  | x :: r, a, h, hm => by
    obtain ⟨rfl, e, h2, h3, h4, h5⟩ := h
    obtain ⟨v, hv, hl⟩ := l.le h5 (by simp only [List.length_cons] at hm; omega)
    rcases (l.next r.length (by simp only [List.length_cons] at hm; omega)).2 x (by omega) with ⟨_, hn⟩ | ⟨e', v', hb, hv', hM⟩
    · have := hn e h2 h3 h4
      rw [hv] at this; cases this
    · refine ⟨_, hM, ?_⟩
      obtain ⟨_, _, _, v2, hv2, ho⟩ := hb
      rw [hv'] at hv2
      cases hv2
      have := (ho e v h2 h3 h4 hv).1
      rw [sm_step h5.ch]
      omega
/-- starts that layers lead to -/
def BcL (ws : List (List Nat)) (wd : Int) (L : Nat → Nat → Option Int) : Nat → List Nat → Prop
  | a, [] => a = ws.length
  | a, b :: r => b = a ∧ ∃ e, BestL ws wd (L r.length) a e ∧ BcL ws wd L e r
theorem BcL.fc {ws : List (List Nat)} {wd : Int} {L : Nat → Nat → Option Int} : ∀ {ks : List Nat} {a : Nat}, BcL ws wd L a ks → Fc ws wd a ks
  | [], _, h => h
  | _ :: _, _, h => by obtain ⟨h1, e, hb, h5⟩ := h; exact ⟨h1, e, hb.1, hb.2.1, hb.2.2.1, h5.fc⟩
theorem Lays.sum {ws : List (List Nat)} {wd : Int} {m : Nat} {L : Nat → Nat → Option Int} (l : Lays ws wd m L) : ∀ {ks : List Nat} {a : Nat}, BcL ws wd L a ks → ks.length ≤ m → L ks.length a = some (sm ws wd ks)
  | [], a, h, _ => by
    have : a = ws.length := h
    subst this
    exact l.zero.1
  | x :: r, a, h, hm => by
    obtain ⟨rfl, e, hb, h5⟩ := h
    have i := l.sum h5 (by simp only [List.length_cons] at hm; omega)
    rw [sm_step h5.fc.ch]
    rcases (l.next r.length (by simp only [List.length_cons] at hm; omega)).2 x (by have := hb.1; have := hb.2.1; omega) with ⟨_, hn⟩ | ⟨e', v', hb', hv', hM⟩
    · have := hn e hb.1 hb.2.1 hb.2.2.1
      rw [i] at this; cases this
    · obtain ⟨g1, g2, g3, v, hv, ho⟩ := hb
      obtain ⟨f1, f2, f3, u, hu, ho'⟩ := hb'
      rw [i] at hv
      cases hv
      rw [hv'] at hu
      cases hu
      have a1 := ho e' v' f1 f2 f3 hv'
      have a2 := ho' e _ g1 g2 g3 i
      show L (r.length + 1) x = _
      rw [hM]
      exact congrArg some (by omega)
theorem Lays.tie {ws : List (List Nat)} {wd : Int} {m : Nat} {L : Nat → Nat → Option Int} (l : Lays ws wd m L) : ∀ {ks os : List Nat} {a : Nat}, BcL ws wd L a ks → Fc ws wd a os → os.length = ks.length → ks.length ≤ m → sm ws wd os = sm ws wd ks →
    lexLt (toI ks) (toI os) = false
  | [], [], a, _, _, _, _, _ => rfl
  | [], _ :: _, _, _, _, h, _, _ => by simp at h
  | _ :: _, [], _, _, _, h, _, _ => by simp at h
  | x :: r, y :: s, a, h, g, hl, hm, hs => by
    obtain ⟨rfl, e, hb, h5⟩ := h
    obtain ⟨rfl, e', g2, g3, g4, g5⟩ := g
    have hl' : s.length = r.length := by simpa using hl
    have hm' : r.length ≤ m := by simp only [List.length_cons] at hm; omega
    rw [sm_step g5.ch, sm_step h5.fc.ch] at hs
    have i1 := l.sum h5 hm'
    obtain ⟨v', i2, i3⟩ := l.le g5 (by omega)
    rw [hl'] at i2
    obtain ⟨_, _, _, v, hv, ho⟩ := hb
    rw [i1] at hv
    cases hv
    have h7 := ho e' v' g2 g3 g4 i2
    have h8 : e' ≤ e := h7.2 (by omega)
    show (decide (((y : Nat) : Int) < (y : Nat)) || (decide (((y : Nat) : Int) = (y : Nat)) && lexLt (toI r) (toI s))) = false
    rw [decide_eq_false (Int.lt_irrefl _), Bool.false_or, decide_eq_true rfl, Bool.true_and]
    rcases Nat.lt_or_eq_of_le h8 with z | z
    · cases r with
      | nil =>
        have : s = [] := List.length_eq_zero_iff.mp hl'
        subst this
        rfl
      | cons c r' =>
        cases s with
        | nil => simp at hl'
        | cons d s' =>
          have hc : c = e := h5.1
          have hd : d = e' := g5.1
          subst hc hd
          show (decide (((c : Nat) : Int) < (d : Nat)) || (decide (((c : Nat) : Int) = (d : Nat)) && lexLt (toI r') (toI s'))) = false
          rw [decide_eq_false (by omega), decide_eq_false (by omega)]; rfl
    · subst z
      exact l.tie h5 g5 hl' hm' (by omega)
/-- a line cut in two -/
theorem Fc.more {ws : List (List Nat)} {wd : Int} : ∀ {os : List Nat} {a : Nat}, Fc ws wd a os → a + os.length < ws.length → ∃ ks, Fc ws wd a ks ∧ ks.length = os.length + 1
  | [], a, h, hl => by
    have : a = ws.length := h
    simp at hl; omega
  | x :: r, a, h, hl => by
    obtain ⟨rfl, e, h2, h3, h4, h5⟩ := h
    rcases Nat.lt_or_ge (x + 1) e with c | c
    · refine ⟨x :: (x + 1) :: r, ⟨rfl, x + 1, by omega, by omega, ?_, rfl, e, c, h3, ?_, h5⟩, by simp⟩
      · have := size_mono (ws := ws) (Nat.le_refl x) (show x < x + 1 by omega) (Nat.le_of_lt c) h3
        omega
      · have := size_mono (ws := ws) (show x ≤ x + 1 by omega) c (Nat.le_refl e) h3
        omega
    · obtain ⟨ks, k1, k2⟩ := Fc.more h5 (by simp only [List.length_cons] at hl; omega)
      exact ⟨x :: ks, ⟨rfl, e, h2, h3, h4, k1⟩, by rw [List.length_cons, List.length_cons, k2]⟩
theorem Fc.many {ws : List (List Nat)} {wd : Int} {os : List Nat} (h : Fc ws wd 0 os) : ∀ m, os.length ≤ m → m ≤ ws.length → ∃ ks, Fc ws wd 0 ks ∧ ks.length = m := by
  intro m h1 h2
  induction m with
  | zero => exact ⟨os, h, by omega⟩
  | succ m ih =>
    rcases Nat.lt_or_eq_of_le h1 with c | c
    · obtain ⟨ks, k1, k2⟩ := ih (by omega) (by omega)
      obtain ⟨ks', g1, g2⟩ := Fc.more k1 (by omega)
      exact ⟨ks', g1, by omega⟩
    · exact ⟨os, h, c⟩
end Tw
namespace Tw
/-- where all words fit there are quick starts -/
theorem quick_from {ws : List (List Nat)} {wd : Int} (ft : Ft ws wd) : ∀ (k a : Nat), a ≤ ws.length → ws.length - a = k → ∃ qs, Qk ws wd a qs := by
  intro k
  induction k using Nat.strongRecOn with
  | ind k ih =>
    intro a ha hk
    rcases Nat.lt_or_eq_of_le ha with l | l
    · have ex : ∀ d e, a < e → e ≤ ws.length → ((size ws a e : Nat) : Int) ≤ wd → ws.length - e = d → ∃ e', a < e' ∧ e' ≤ ws.length ∧ ((size ws a e' : Nat) : Int) ≤ wd ∧ (e' = ws.length ∨ wd < ((size ws a (e' + 1) : Nat) : Int)) := by
        intro d
        induction d with
        | zero => intro e h1 h2 h3 h4; exact ⟨e, h1, h2, h3, .inl (by omega)⟩
        | succ d ihd =>
          intro e h1 h2 h3 h4
          by_cases c : wd < ((size ws a (e + 1) : Nat) : Int)
          · exact ⟨e, h1, h2, h3, .inr c⟩
          · exact ihd (e + 1) (by omega) (by omega) (by omega) (by omega)
      obtain ⟨e, h1, h2, h3, h4⟩ := ex _ (a + 1) (by omega) (by omega) (ft.one l) rfl
      obtain ⟨qs, hq⟩ := ih (ws.length - e) (by omega) e h2 rfl
      exact ⟨a :: qs, rfl, e, h1, h2, h3, h4, hq⟩
    · exact ⟨[], l⟩
theorem Ft.quick {ws : List (List Nat)} {wd : Int} (ft : Ft ws wd) : ∃ qs, Qk ws wd 0 qs := quick_from ft _ 0 (Nat.zero_le _) rfl
end Tw
namespace Tw
open PySem PySem.Spec PyProof.Rows L2
def topS (i : Nat) : Stmt := PySem.Challenge.pw_textwrapper_k11_whole_none_less_in_lines.main.body.getD i (.Pass ⟨0, 0, 0, 0⟩)
abbrev st_size_of : Stmt := topS 13
abbrev N_size_of : List Str := ["words", "begin", "end", "size", "word"]
theorem sc_size_of : FnScope N_size_of ["words", "begin", "end"] (defScope st_size_of) := ⟨rfl, rfl, rfl, by decide +kernel, rfl, by decide +kernel, by decide +kernel⟩
abbrev st_need_width : Stmt := topS 14
abbrev N_need_width : List Str := ["width"]
theorem sc_need_width : FnScope N_need_width ["width"] (defScope st_need_width) := ⟨rfl, rfl, rfl, by decide +kernel, rfl, by decide +kernel, by decide +kernel⟩
abbrev st_long_word : Stmt := topS 15
abbrev N_long_word : List Str := ["words", "width", "at"]
theorem sc_long_word : FnScope N_long_word ["words", "width"] (defScope st_long_word) := ⟨rfl, rfl, rfl, by decide +kernel, rfl, by decide +kernel, by decide +kernel⟩
abbrev st_need_fits : Stmt := topS 16
abbrev N_need_fits : List Str := ["words", "width"]
theorem sc_need_fits : FnScope N_need_fits ["words", "width"] (defScope st_need_fits) := ⟨rfl, rfl, rfl, by decide +kernel, rfl, by decide +kernel, by decide +kernel⟩
abbrev st_line_price : Stmt := topS 17
abbrev N_line_price : List Str := ["words", "width", "begin", "end", "gap"]
theorem sc_line_price : FnScope N_line_price ["words", "width", "begin", "end"] (defScope st_line_price) := ⟨rfl, rfl, rfl, by decide +kernel, rfl, by decide +kernel, by decide +kernel⟩
abbrev st_quick_starts : Stmt := topS 19
abbrev N_quick_starts : List Str := ["words", "width", "found", "size", "at"]
theorem sc_quick_starts : FnScope N_quick_starts ["words", "width"] (defScope st_quick_starts) := ⟨rfl, rfl, rfl, by decide +kernel, rfl, by decide +kernel, by decide +kernel⟩
abbrev st_end_by : Stmt := topS 21
abbrev N_end_by : List Str := ["words", "width", "layer", "at", "found", "least", "gap", "end", "price"]
theorem sc_end_by : FnScope N_end_by ["words", "width", "layer", "at"] (defScope st_end_by) := ⟨rfl, rfl, rfl, by decide +kernel, rfl, by decide +kernel, by decide +kernel⟩
abbrev st_next_layer : Stmt := topS 22
abbrev N_next_layer : List Str := ["words", "width", "layer", "above", "at", "end", "word"]
theorem sc_next_layer : FnScope N_next_layer ["words", "width", "layer"] (defScope st_next_layer) := ⟨rfl, rfl, rfl, by decide +kernel, rfl, by decide +kernel, by decide +kernel⟩
abbrev st_layers_of : Stmt := topS 23
abbrev N_layers_of : List Str := ["words", "width", "many", "layers", "k", "word"]
theorem sc_layers_of : FnScope N_layers_of ["words", "width", "many"] (defScope st_layers_of) := ⟨rfl, rfl, rfl, by decide +kernel, rfl, by decide +kernel, by decide +kernel⟩
abbrev st_starts_in : Stmt := topS 24
abbrev N_starts_in : List Str := ["words", "width", "many", "layers", "found", "at", "k"]
theorem sc_starts_in : FnScope N_starts_in ["words", "width", "many"] (defScope st_starts_in) := ⟨rfl, rfl, rfl, by decide +kernel, rfl, by decide +kernel, by decide +kernel⟩
abbrev st__law_cell_at : Stmt := topS 26
abbrev N__law_cell_at : List Str := ["_law_script", "_law_k"]
theorem sc__law_cell_at : FnScope N__law_cell_at ["_law_script", "_law_k"] (defScope st__law_cell_at) := ⟨rfl, rfl, rfl, by decide +kernel, rfl, by decide +kernel, by decide +kernel⟩
abbrev st__law_sign_by : Stmt := topS 27
abbrev N__law_sign_by : List Str := ["_law_cell", "_law_some"]
theorem sc__law_sign_by : FnScope N__law_sign_by ["_law_cell"] (defScope st__law_sign_by) := ⟨rfl, rfl, rfl, by decide +kernel, rfl, by decide +kernel, by decide +kernel⟩
abbrev st__law_word_by : Stmt := topS 28
abbrev N__law_word_by : List Str := ["_law_cell", "_law_size_here", "_law_k"]
theorem sc__law_word_by : FnScope N__law_word_by ["_law_cell"] (defScope st__law_word_by) := ⟨rfl, rfl, rfl, by decide +kernel, rfl, by decide +kernel, by decide +kernel⟩
abbrev st__law_whole : Stmt := topS 29
abbrev N__law_whole : List Str := ["_law_found"]
theorem sc__law_whole : FnScope N__law_whole ["_law_found"] (defScope st__law_whole) := ⟨rfl, rfl, rfl, by decide +kernel, rfl, by decide +kernel, by decide +kernel⟩
abbrev st__law_wholes : Stmt := topS 30
abbrev N__law_wholes : List Str := ["_law_found", "_law_one"]
theorem sc__law_wholes : FnScope N__law_wholes ["_law_found"] (defScope st__law_wholes) := ⟨rfl, rfl, rfl, by decide +kernel, rfl, by decide +kernel, by decide +kernel⟩
abbrev st__law_longest : Stmt := topS 31
abbrev N__law_longest : List Str := ["_law_row", "_law_most", "_law_word"]
theorem sc__law_longest : FnScope N__law_longest ["_law_row"] (defScope st__law_longest) := ⟨rfl, rfl, rfl, by decide +kernel, rfl, by decide +kernel, by decide +kernel⟩
abbrev st__law_size : Stmt := topS 32
abbrev N__law_size : List Str := ["_law_row", "_law_begin", "_law_end"]
theorem sc__law_size : FnScope N__law_size ["_law_row", "_law_begin", "_law_end"] (defScope st__law_size) := ⟨rfl, rfl, rfl, by decide +kernel, rfl, by decide +kernel, by decide +kernel⟩
abbrev st__law_alike_by : Stmt := topS 33
abbrev N__law_alike_by : List Str := ["_law_cell", "_law_size_here", "_law_at"]
theorem sc__law_alike_by : FnScope N__law_alike_by ["_law_cell", "_law_size_here"] (defScope st__law_alike_by) := ⟨rfl, rfl, rfl, by decide +kernel, rfl, by decide +kernel, by decide +kernel⟩
abbrev st__law_wide_by : Stmt := topS 34
abbrev N__law_wide_by : List Str := ["_law_more", "_law_k"]
theorem sc__law_wide_by : FnScope N__law_wide_by ["_law_more", "_law_k"] (defScope st__law_wide_by) := ⟨rfl, rfl, rfl, by decide +kernel, rfl, by decide +kernel, by decide +kernel⟩
abbrev st__law_words_by : Stmt := topS 35
abbrev N__law_words_by : List Str := ["_law_cells", "_law_more", "_law_row", "_law_many", "_law_cell", "_law_k"]
theorem sc__law_words_by : FnScope N__law_words_by ["_law_cells", "_law_more"] (defScope st__law_words_by) := ⟨rfl, rfl, rfl, by decide +kernel, rfl, by decide +kernel, by decide +kernel⟩
abbrev st__law_width_by : Stmt := topS 36
abbrev N__law_width_by : List Str := ["_law_cell", "_law_row", "_law_room"]
theorem sc__law_width_by : FnScope N__law_width_by ["_law_cell", "_law_row"] (defScope st__law_width_by) := ⟨rfl, rfl, rfl, by decide +kernel, rfl, by decide +kernel, by decide +kernel⟩
abbrev st__law_price : Stmt := topS 37
abbrev N__law_price : List Str := ["_law_row", "_law_width", "_law_begin", "_law_end"]
theorem sc__law_price : FnScope N__law_price ["_law_row", "_law_width", "_law_begin", "_law_end"] (defScope st__law_price) := ⟨rfl, rfl, rfl, by decide +kernel, rfl, by decide +kernel, by decide +kernel⟩
abbrev st__law_sum : Stmt := topS 38
abbrev N__law_sum : List Str := ["_law_row", "_law_width", "_law_found", "_law_ends", "_law_total", "_law_k"]
theorem sc__law_sum : FnScope N__law_sum ["_law_row", "_law_width", "_law_found"] (defScope st__law_sum) := ⟨rfl, rfl, rfl, by decide +kernel, rfl, by decide +kernel, by decide +kernel⟩
abbrev st__law_are_starts : Stmt := topS 39
abbrev N__law_are_starts : List Str := ["_law_row", "_law_width", "_law_found", "_law_ends", "_law_k"]
theorem sc__law_are_starts : FnScope N__law_are_starts ["_law_row", "_law_width", "_law_found"] (defScope st__law_are_starts) := ⟨rfl, rfl, rfl, by decide +kernel, rfl, by decide +kernel, by decide +kernel⟩
abbrev st__law_others_by : Stmt := topS 40
abbrev N__law_others_by : List Str := ["_law_cells", "_law_row", "_law_width", "_law_found", "_law_at", "_law_end", "_law_cell"]
theorem sc__law_others_by : FnScope N__law_others_by ["_law_cells", "_law_row", "_law_width"] (defScope st__law_others_by) := ⟨rfl, rfl, rfl, by decide +kernel, rfl, by decide +kernel, by decide +kernel⟩
abbrev st__law_in_lines : Stmt := topS 41
abbrev N__law_in_lines : List Str := ["_law_cells", "_law_row", "_law_width", "_law_many", "_law_found", "_law_left", "_law_k"]
theorem sc__law_in_lines : FnScope N__law_in_lines ["_law_cells", "_law_row", "_law_width", "_law_many"] (defScope st__law_in_lines) := ⟨rfl, rfl, rfl, by decide +kernel, rfl, by decide +kernel, by decide +kernel⟩
abbrev st__law_kind : Stmt := topS 42
abbrev N__law_kind : List Str := ["_law_e", "_law_flags", "_law_k"]
theorem sc__law_kind : FnScope N__law_kind ["_law_e"] (defScope st__law_kind) := ⟨rfl, rfl, rfl, by decide +kernel, rfl, by decide +kernel, by decide +kernel⟩
abbrev st__law_refusal : Stmt := topS 43
abbrev N__law_refusal : List Str := ["_law_row", "_law_width", "_law_many", "_law_e"]
theorem sc__law_refusal : FnScope N__law_refusal ["_law_row", "_law_width", "_law_many"] (defScope st__law_refusal) := ⟨rfl, rfl, rfl, by decide +kernel, rfl, by decide +kernel, by decide +kernel⟩
abbrev st__law_all : Stmt := topS 44
abbrev N__law_all : List Str := ["_law_count", "_law_every", "_law_k", "_law_one"]
theorem sc__law_all : FnScope N__law_all ["_law_count"] (defScope st__law_all) := ⟨rfl, rfl, rfl, by decide +kernel, rfl, by decide +kernel, by decide +kernel⟩
abbrev st__law_near : Stmt := topS 45
abbrev N__law_near : List Str := ["_law_found", "_law_count", "_law_near_here", "_law_k"]
theorem sc__law_near : FnScope N__law_near ["_law_found", "_law_count"] (defScope st__law_near) := ⟨rfl, rfl, rfl, by decide +kernel, rfl, by decide +kernel, by decide +kernel⟩
abbrev st__law_beaten : Stmt := topS 46
abbrev N__law_beaten : List Str := ["_law_row", "_law_width", "_law_found", "_law_others", "_law_mine", "_law_theirs"]
theorem sc__law_beaten : FnScope N__law_beaten ["_law_row", "_law_width", "_law_found", "_law_others"] (defScope st__law_beaten) := ⟨rfl, rfl, rfl, by decide +kernel, rfl, by decide +kernel, by decide +kernel⟩
abbrev st__law_many_by : Stmt := topS 47
abbrev N__law_many_by : List Str := ["_law_cell", "_law_quick", "_law_count", "_law_great"]
theorem sc__law_many_by : FnScope N__law_many_by ["_law_cell", "_law_quick", "_law_count", "_law_great"] (defScope st__law_many_by) := ⟨rfl, rfl, rfl, by decide +kernel, rfl, by decide +kernel, by decide +kernel⟩
abbrev st_law : Stmt := topS 48
abbrev N_law : List Str := ["_law_script", "_law_cut", "_law_more", "_law_great", "_law_row", "_law_width", "_law_quick", "_law_many", "_law_handed", "_law_found", "_law_rows", "_law_turn", "_law_others"]
theorem sc_law : FnScope N_law ["_law_script"] (defScope st_law) := ⟨rfl, rfl, rfl, by decide +kernel, rfl, by decide +kernel, by decide +kernel⟩
section
variable {P : Program} {w : World} {K : PySem.W.Frag} {mg : Str → Option Value} {base : Heap}
def sp_size_of (K : PySem.W.Frag) : Sp := fun vs H Q _ => ∃ (p : Addr) (ws : List (List Nat)) (a b : Nat), vs = [.ref p, .int a, .int b] ∧ SqL K H p (vts ws) ∧ Bw ws ∧ a ≤ b ∧ b ≤ ws.length ∧
  ∀ H', Same H H' → Q (.int (size ws a b : Nat)) H'
theorem ok_size_of (A : At K mg "size_of" ["words", "begin", "end"] st_size_of) (T : Bts mg) : Ok P w K mg base CX0 1 "size_of" ["words", "begin", "end"] (sp_size_of K) := by
  refine A.ok sc_size_of (fun vs H Q E h => ?_) (fun f cdv A outer s H vs Q E hr h => ?_)
  · obtain ⟨p, ws, a, b, rfl, _⟩ := h; rfl
  · obtain ⟨p, ws, a, b, rfl, hS, hw, hab, hb, q⟩ := h
    refine ⟨_, (pss_cons (ps_set (i := 3) sc_size_of.nd rfl (Or.inl rfl) (pe_callB (call_max2 rfl) (by rfl) T.m_max (by decide +kernel) (pa_cons pe_int (pa_cons (pe_op op_sub (pe_op op_sub (pv 2) (pv 1)) pe_int) pa_nil))))
      (pss_cons (ps_for PassesOwn.never rfl (pi_list (pe_slice (sl_listK K) (pv 0) (po_some (pv 1)) (po_some (pv 2)))) (pg_name (i := 4) sc_size_of.nd rfl (Or.inl rfl))
      (pss_one (ps_set (i := 3) sc_size_of.nd rfl (Or.inl rfl) (pe_op op_add (pv 3) (pe_callB call_len_str (by rfl) T.m_len PySem.boot_len (pa_cons (pv 4) pa_nil))))))
      (pss_one (ps_ret (pv 3))))), ?_⟩
    refine ⟨_, rfl, _, rfl, _, _, rfl, rfl, _, _, rfl, rfl, 0, (b : Int) - a - 1, rfl, ?_⟩
    refine ⟨_, rfl, _, rfl, a, rfl, _, rfl, b, rfl, p, _, rfl, hS, fun c nc => ?_⟩
    have ec : cutV (vts ws) (some (a : Int)) (some (b : Int)) = vts (seg ws a b) := cut_ft vt ws a b
    have s1 := (Same.refl H).new (o := HO.lst (cutV (vts ws) (some (a : Int)) (some (b : Int)))) nc
    have e1 : (upd H c (HO.lst (cutV (vts ws) (some (a : Int)) (some (b : Int))))) c = some (.lst (vts (seg ws a b))) := by rw [upd_same, ec]
    generalize upd H c (HO.lst (cutV (vts ws) (some (a : Int)) (some (b : Int)))) = H1 at s1 e1 ⊢
    have hl := seg_length ws (a := a) hb
    have hm : (if (b : Int) - a - 1 > 0 then (b : Int) - a - 1 else 0) = (((seg ws a b).length - 1 : Nat) : Int) := by
      rw [hl]; split <;> omega
    refine ⟨c, rfl, ⟨_, .of e1⟩, ?_⟩
    refine for_lst (f := vt) (l := seg ws a b) (fun d r σ H3 => H3 = H1 ∧ ∃ y, σ = [some (.ref p), some (.int a), some (.int b), some (.int (((seg ws a b).length - 1 : Nat) + (total d : Nat))), y]) ?_ ?_ ?_ ?_
    · exact ⟨rfl, none, by rw [hm]; simp [total]; rfl⟩
    · rintro d r σ H3 ⟨rfl, _⟩; exact .of e1
    · rintro d x r σ H3 e ⟨rfl, y, rfl⟩
      have hx : x ∈ ws := seg_mem (a := a) (b := b) (by rw [e]; simp)
      refine ⟨_, rfl, _, rfl, tx x, rfl, by rw [tx_len]; exact sz (by have := hw.wl hx; omega), _, _, rfl, rfl, rfl, some (vt x), ?_⟩
      rw [total_app, tx_len]
      have : total [x] = x.length := by simp [total]
      rw [this]
      have e9 : (((seg ws a b).length - 1 : Nat) : Int) + (total d : Nat) + (x.length : Nat) = (((seg ws a b).length - 1 : Nat) : Int) + ((total d + x.length : Nat) : Int) := by omega
      exact congrArg (fun z => [some (V.ref p), some (V.int a), some (V.int b), some (V.int z), some (vt x)]) e9
    · rintro σ H3 ⟨rfl, y, rfl⟩
      refine ⟨_, rfl, ?_⟩
      have e9 : (((seg ws a b).length - 1 : Nat) : Int) + (total (seg ws a b) : Nat) = ((size ws a b : Nat) : Int) := by
        unfold size lsz; omega
      rw [e9]
      exact q _ s1

def sp_need_width (ea : EA) : Sp := fun vs H Q E => ∃ n : Int, vs = [.int n] ∧ (n < 1 → E (.ref ea.nw) none H) ∧ (1 ≤ n → Q .non H)
theorem ok_need_width {ea : EA} (A : At K mg "need_width" ["width"] st_need_width) (T : Bts mg) (X : Xs K mg ea) : Ok P w K mg base (CXn P w) 1 "need_width" ["width"] (sp_need_width ea) := by
  refine A.okX sc_need_width (fun vs H Q E h => ?_) (fun f cdv A outer s H vs Q E hr h => ?_)
  · obtain ⟨n, rfl, _⟩ := h; rfl
  · obtain ⟨n, rfl, e, q⟩ := h
    refine ⟨_, (pss_one (ps_if (pt_cmpR op_lt (pv 0) pe_int (nomark _)) (pss_one (L2N.ps_raise rfl (L2N.takes_of rfl rfl rfl rfl) (X.c_NoWidth.mk_raise (by rfl)))) pss_nil)), ?_⟩
    refine ⟨_, rfl, _, _, rfl, rfl, _, rfl, tst (c := n < 1) rfl (fun h1 => ?_) (fun h1 => ?_)⟩
    · exact e h1
    · exact q (by omega)

def sp_long_word (K : PySem.W.Frag) (ea : EA) : Sp := fun vs H Q E => ∃ (p : Addr) (ws : List (List Nat)) (n : Int), vs = [.ref p, .int n] ∧ SqL K H p (vts ws) ∧ Bw ws ∧
  (n < 1 → E (.ref ea.nw) none H) ∧ (1 ≤ n → Q (vlong ws n) H)
theorem ok_long_word {ea : EA} (A : At K mg "long_word" ["words", "width"] st_long_word) (T : Bts mg) (X : Xs K mg ea)
    (G_need_width : Ok P w K mg base (CXn P w) 1 "need_width" ["width"] (sp_need_width ea)) : Ok P w K mg base (CXn P w) 2 "long_word" ["words", "width"] (sp_long_word K ea) := by
  refine A.okX sc_long_word (fun vs H Q E h => ?_) (fun f cdv A outer s H vs Q E hr h => ?_)
  · obtain ⟨p, ws, n, rfl, _⟩ := h; rfl
  · obtain ⟨p, ws, n, rfl, hS, hw, e, q⟩ := h
    refine ⟨_, (pss_cons (ps_expr (pe_cd G_need_width (hr.mono (by decide)) passR (pa_cons (pv 1) pa_nil)))
      (PSs.nox (pss_cons (ps_for PassesOwn.never rfl (pi_range1 (by rfl) T.m_range (pa_cons (pe_callB (call_lenK K) (by rfl) T.m_len PySem.boot_len (pa_cons (pv 0) pa_nil)) pa_nil)) (pg_name (i := 2) sc_long_word.nd rfl (Or.inl rfl))
      (pss_one (ps_if (pt_cmpR op_gt (pe_callB call_len_str (by rfl) T.m_len PySem.boot_len (pa_cons (pe_ix (ix_listK K) (pv 0) (pv 2) (fun _ _ => rfl)) pa_nil)) (pv 1) (nomark _)) (pss_one (ps_ret (pv 2))) pss_nil)))
      (pss_one (ps_ret pe_non))))), ?_⟩
    refine ⟨_, rfl, n, rfl, e, fun n1 => ?_⟩
    refine ⟨_, rfl, p, _, rfl, .inl hS, ((vts ws).length : Nat), rfl, by omega, by rw [List.length_map]; have := hw.le; omega, ?_⟩
    rw [Int.toNat_natCast]
    refine for_range (n := (vts ws).length) (fun i σ H3 => H3 = H ∧ (∀ j (h : j < i) (h2 : j < ws.length), (ws[j].length : Int) ≤ n) ∧ ∃ y, σ = [some (.ref p), some (.int n), y]) ⟨rfl, (fun j h => by omega), none, rfl⟩ ?_ ?_
    · rintro i σ H3 hi ⟨rfl, hj, y, rfl⟩
      have hi' : i < ws.length := by rw [List.length_map] at hi; exact hi
      have e0 : (0 + (i : Int)) = (i : Int) := by omega
      refine ⟨_, rfl, _, rfl, p, _, _, _, rfl, rfl, hS, at_of e0 (flat_get (List.getElem?_eq_getElem hi')), tx ws[i], rfl, by rw [tx_len]; exact sz (by have := hw.wl (List.getElem_mem hi'); omega), _, rfl, _, _, rfl, rfl, _, rfl, tst (c := n < (ws[i].length : Int)) (by rw [tx_len]) (fun h1 => ?_) (fun h1 => ?_)⟩
      · refine ⟨_, rfl, ?_⟩
        rw [e0, ← vlong_some hi' (fun j h => hj j h (by omega)) h1]
        exact q n1
      · refine ⟨rfl, fun j h h2 => ?_, _, rfl⟩
        by_cases e : j = i
        · subst e; omega
        · exact hj j (by omega) h2
    · rintro σ H3 ⟨rfl, hj, y, rfl⟩
      have e : vlong ws n = .non := vlong_none fun x hx => by
        obtain ⟨i, hi, e⟩ := List.mem_iff_getElem.mp hx
        rw [← e]
        exact hj i (by rw [List.length_map]; exact hi) hi
      have q1 := q n1
      rw [e] at q1
      exact q1

def sp_need_fits (K : PySem.W.Frag) (ea : EA) : Sp := fun vs H Q E => ∃ (p : Addr) (ws : List (List Nat)) (n : Int), vs = [.ref p, .int n] ∧ SqL K H p (vts ws) ∧ Bw ws ∧
  (n < 1 → E (.ref ea.nw) none H) ∧ (1 ≤ n → n < (longest ws : Nat) → E (.ref ea.lw) none H) ∧ (Ft ws n → Q .non H)
theorem ok_need_fits {ea : EA} (A : At K mg "need_fits" ["words", "width"] st_need_fits) (T : Bts mg) (X : Xs K mg ea) (G_long_word : Ok P w K mg base (CXn P w) 2 "long_word" ["words", "width"] (sp_long_word K ea)) :
    Ok P w K mg base (CXn P w) 3 "need_fits" ["words", "width"] (sp_need_fits K ea) := by
  refine A.okX sc_need_fits (fun vs H Q E h => ?_) (fun f cdv A outer s H vs Q E hr h => ?_)
  · obtain ⟨p, ws, n, rfl, _⟩ := h; rfl
  · obtain ⟨p, ws, n, rfl, hS, hw, e1, e2, q⟩ := h
    refine ⟨_, (pss_one (ps_if (pt_cmpR op_notN (pe_cd G_long_word (hr.mono (by decide)) passR (pa_cons (pv 0) (pa_cons (pv 1) pa_nil))) pe_non (nomark _)) (pss_one (L2N.ps_raise rfl (L2N.takes_of rfl rfl rfl rfl) (X.c_LongWord.mk_raise (by rfl)))) pss_nil)), ?_⟩
    refine ⟨_, rfl, _, rfl, p, ws, n, rfl, hS, hw, e1, fun n1 => ?_⟩
    rcases vlong_cases ws n with ⟨ev, hv⟩ | ⟨k, _, ev, w, hw1, hw2⟩
    · rw [ev]
      exact ⟨rfl, _, rfl, iteF (q ⟨n1, hv⟩)⟩
    · rw [ev]
      have := longest_ge hw1
      exact ⟨rfl, _, rfl, iteT (e2 n1 (by omega))⟩

def sp_line_price (K : PySem.W.Frag) : Sp := fun vs H Q _ => ∃ (p : Addr) (ws : List (List Nat)) (n : Int) (a e : Nat), vs = [.ref p, .int n, .int a, .int e] ∧ SqL K H p (vts ws) ∧ Bw ws ∧ Wb n ∧ a ≤ e ∧ e ≤ ws.length ∧
  ∀ H', Same H H' → Q (.int (pr ws n a e)) H'
theorem ok_line_price (A : At K mg "line_price" ["words", "width", "begin", "end"] st_line_price) (T : Bts mg) (G_size_of : Ok P w K mg base CX0 1 "size_of" ["words", "begin", "end"] (sp_size_of K)) :
    Ok P w K mg base CX0 2 "line_price" ["words", "width", "begin", "end"] (sp_line_price K) := by
  refine A.ok sc_line_price (fun vs H Q E h => ?_) (fun f cdv A outer s H vs Q E hr h => ?_)
  · obtain ⟨p, ws, n, a, e, rfl, _⟩ := h; rfl
  · obtain ⟨p, ws, n, a, e, rfl, hS, hw, hn, hae, he, q⟩ := h
    refine ⟨_, (pss_cons (ps_if (pt_cmpR op_eq (pv 3) (pe_callB (call_lenK K) (by rfl) T.m_len PySem.boot_len (pa_cons (pv 0) pa_nil)) (nomark _)) (pss_one (ps_ret pe_int)) pss_nil)
      (pss_cons (ps_set (i := 4) sc_line_price.nd rfl (Or.inl rfl) (pe_op op_sub (pv 1) (pe_cd G_size_of (hr.mono (by decide)) pass0 (pa_cons (pv 0) (pa_cons (pv 2) (pa_cons (pv 3) pa_nil))))))
      (pss_one (ps_ret (pe_op op_mulW (pv 4) (pv 4)))))), ?_⟩
    refine ⟨_, rfl, _, rfl, p, _, rfl, .inl hS, rfl, _, rfl, tst (c := e = ws.length) (by rw [dec_vi, List.length_map]; simp only [decide_eq_decide]; omega) (fun h1 => ?_) (fun h1 => ?_)⟩
    · have := q H (Same.refl H)
      rw [pr_last h1] at this; exact this
    · have hs := hw.size a e
      refine ⟨_, rfl, _, rfl, _, rfl, _, rfl, p, ws, a, e, rfl, hS, hw, hae, he, fun H' s' => ?_⟩
      refine ⟨_, _, rfl, rfl, _, rfl, _, rfl, _, _, rfl, rfl, hn.mul (by omega), ?_⟩
      have := q H' s'
      rw [pr_gap h1] at this; exact this

def sp_quick_starts (K : PySem.W.Frag) (ea : EA) : Sp := fun vs H Q E => ∃ (p : Addr) (ws : List (List Nat)) (n : Int), vs = [.ref p, .int n] ∧ SqL K H p (vts ws) ∧ Bw ws ∧
  (n < 1 → E (.ref ea.nw) none H) ∧ (1 ≤ n → n < (longest ws : Nat) → E (.ref ea.lw) none H) ∧
  (Ft ws n → ∀ H' o ks, Same H H' → H o = none → H' o = some (.lst (vis (toI ks))) → Qk ws n 0 ks → Q (.ref o) H')
theorem ok_quick_starts {ea : EA} (A : At K mg "quick_starts" ["words", "width"] st_quick_starts) (T : Bts mg) (X : Xs K mg ea) (G_need_fits : Ok P w K mg base (CXn P w) 3 "need_fits" ["words", "width"] (sp_need_fits K ea)) :
    Ok P w K mg base (CXn P w) 4 "quick_starts" ["words", "width"] (sp_quick_starts K ea) := by
  refine A.okX sc_quick_starts (fun vs H Q E h => ?_) (fun f cdv A outer s H vs Q E hr h => ?_)
  · obtain ⟨p, ws, n, rfl, _⟩ := h; rfl
  · obtain ⟨p, ws, n, rfl, hS, hw, e1, e2, q⟩ := h
    refine ⟨_, (pss_cons (ps_expr (pe_cd G_need_fits (hr.mono (by decide)) passR (pa_cons (pv 0) (pa_cons (pv 1) pa_nil))))
      (PSs.nox (pss_cons (ps_set (i := 2) sc_quick_starts.nd rfl (Or.inl rfl) (pe_lst pa_nil))
      (pss_cons (ps_set (i := 3) sc_quick_starts.nd rfl (Or.inl rfl) (pv 1))
      (pss_cons (ps_for PassesOwn.never rfl (pi_range1 (by rfl) T.m_range (pa_cons (pe_callB (call_lenK K) (by rfl) T.m_len PySem.boot_len (pa_cons (pv 0) pa_nil)) pa_nil)) (pg_name (i := 4) sc_quick_starts.nd rfl (Or.inl rfl))
      (pss_cons (ps_set (i := 3) sc_quick_starts.nd rfl (Or.inl rfl) (pe_op op_add (pe_op op_add (pv 3) pe_int) (pe_callB call_len_str (by rfl) T.m_len PySem.boot_len (pa_cons (pe_ix (ix_listK K) (pv 0) (pv 4) (fun _ _ => rfl)) pa_nil))))
      (pss_one (ps_if (pt_cmpR op_gt (pv 3) (pv 1) (nomark _)) (pss_cons (ps_expr (pe_bm PySem.F.plainAttrs_list PySem.F.slot_list_append PySem.F.type_list_append mt_append (pv 2) (pa_cons (pv 4) pa_nil)))
      (pss_one (ps_set (i := 3) sc_quick_starts.nd rfl (Or.inl rfl) (pe_callB call_len_str (by rfl) T.m_len PySem.boot_len (pa_cons (pe_ix (ix_listK K) (pv 0) (pv 4) (fun _ _ => rfl)) pa_nil))))) pss_nil))))
      (pss_one (ps_ret (pv 2)))))))), ?_⟩
    refine ⟨_, rfl, _, rfl, p, ws, n, rfl, hS, hw, e1, e2, fun ft => ?_⟩
    refine ⟨sz (by simp), fun D hD => ?_⟩
    have s1 := (Same.refl H).new (o := HO.lst []) hD
    have eD : (upd H D (HO.lst [])) D = some (.lst (vis (toI []))) := upd_same
    generalize upd H D (HO.lst []) = H1 at s1 eD ⊢
    have hle := hw.le
    refine ⟨_, rfl, _, rfl, p, _, rfl, .inl (s1.seq hS), ws.length, by rw [List.length_map], by omega, by omega, ?_⟩
    refine for_range (n := ws.length) (fun i σ H' => Same H H' ∧ ∃ (ks : List Nat) (sz : Int) (z : Option V), σ = [some (.ref p), some (.int n), some (.ref D), some (.int sz), z] ∧ H' D = some (.lst (vis (toI ks))) ∧ ks.length ≤ i ∧
      ((i = 0 ∧ ks = [] ∧ sz = n) ∨ ∃ pre b, ks = pre ++ [b] ∧ b < i ∧ sz = (size ws b i : Nat) ∧ ((size ws b i : Nat) : Int) ≤ n ∧ ∀ r, Qk ws n b (b :: r) → Qk ws n 0 (pre ++ b :: r))) ?_ ?_ ?_
    · exact ⟨s1, [], n, none, rfl, eD, Nat.le_refl _, .inl ⟨rfl, rfl, rfl⟩⟩
    · rintro i σ H' hi ⟨s2, ks, sz0, z, rfl, eD2, hl, hk⟩
      have e0 : (0 + (i : Int)) = (i : Int) := by omega
      have hx := hw.wl (List.getElem_mem hi)
      have g0 : (vts ws)[i]? = some (vt ws[i]) := flat_get (List.getElem?_eq_getElem hi)
      have hone := ft.one hi
      rw [size_one ws hi] at hone
      refine ⟨_, rfl, _, _, rfl, rfl, _, rfl, _, rfl, p, _, _, _, rfl, rfl, s2.seq hS, at_of e0 g0, tx ws[i], rfl, by rw [tx_len]; exact sz (by omega), _, _, rfl, rfl, ?_⟩
      rw [tx_len]
      -- what the size says
      have key : (n < sz0 + 1 + (ws[i].length : Nat) ↔ (ks = [] ∨ ∃ pre b, ks = pre ++ [b] ∧ n < (size ws b (i + 1) : Nat))) ∧ (∀ pre b, ks = pre ++ [b] → b < i → sz0 = (size ws b i : Nat) → sz0 + 1 + (ws[i].length : Nat) = (size ws b (i + 1) : Nat)) := by
        have k2 : ∀ pre b, ks = pre ++ [b] → b < i → sz0 = (size ws b i : Nat) → sz0 + 1 + (ws[i].length : Nat) = (size ws b (i + 1) : Nat) := fun pre b _ hbi e => by
          rw [size_snoc ws hbi hi, e]; omega
        refine ⟨?_, k2⟩
        rcases hk with ⟨_, k1, k3⟩ | ⟨pre, b, k1, k3, k4, k5, k6⟩
        · constructor
          · intro _; exact .inl k1
          · intro _; omega
        · rw [k2 pre b k1 k3 k4]
          constructor
          · intro h; exact .inr ⟨pre, b, k1, h⟩
          · rintro (h | ⟨pre', b', h1, h2⟩)
            · rw [k1] at h; simp at h
            · rw [k1] at h1
              have := (List.append_inj' h1 rfl).2
              cases this
              exact h2
      refine ⟨_, rfl, _, rfl, _, _, rfl, rfl, _, rfl, tst (c := n < sz0 + 1 + (ws[i].length : Nat)) rfl (fun h1 => ?_) (fun h1 => ?_)⟩
      · have h1' := key.1.mp h1
        refine ⟨_, rfl, .inl ⟨rfl, _, .of eD2⟩, _, rfl, D, _, _, rfl, rfl, eD2, by rw [List.length_map, toI_length]; exact sz (by omega), ?_⟩
        have s3 := s2.put (o := HO.lst (vis (toI ks) ++ [V.int (0 + (i : Int))])) hD
        refine ⟨_, rfl, _, rfl, p, _, _, _, rfl, rfl, s3.seq hS, at_of e0 g0, tx ws[i], rfl, by rw [tx_len]; exact sz (by omega), ?_⟩
        rw [tx_len]
        refine ⟨s3, ks ++ [i], (ws[i].length : Nat), some (.int (0 + (i : Int))), rfl, ?_, by rw [List.length_append, List.length_singleton]; omega, .inr ⟨ks, i, rfl, Nat.lt_succ_self i, by rw [size_one ws hi], by rw [size_one ws hi]; exact hone, fun r hr => ?_⟩⟩
        · rw [upd_same, toI_app, e0]; exact congrArg some (congrArg HO.lst (vis_app _ _).symm)
        · rcases hk with ⟨k0, k1, k3⟩ | ⟨pre, b, k1, k3, k4, k5, k6⟩
          · subst k1; subst k0; exact hr
          · have h4 : n < (size ws b (i + 1) : Nat) := by
              have := key.2 pre b k1 k3 k4
              omega
            rw [k1, List.append_assoc]
            exact k6 _ ⟨rfl, i, k3, Nat.le_of_lt hi, k5, .inr h4, hr⟩
      · have hk' : ∃ pre b, ks = pre ++ [b] ∧ b < i ∧ sz0 = (size ws b i : Nat) ∧ ((size ws b i : Nat) : Int) ≤ n ∧ ∀ r, Qk ws n b (b :: r) → Qk ws n 0 (pre ++ b :: r) := by
          rcases hk with ⟨k0, k1, k3⟩ | h
          · exact absurd (key.1.mpr (.inl k1)) h1
          · exact h
        obtain ⟨pre, b, k1, k3, k4, k5, k6⟩ := hk'
        have k7 := key.2 pre b k1 k3 k4
        exact ⟨s2, ks, sz0 + 1 + (ws[i].length : Nat), some (.int (0 + (i : Int))), rfl, eD2, by omega, .inr ⟨pre, b, k1, by omega, k7, by omega, k6⟩⟩
    · rintro σ H' ⟨s2, ks, sz0, z, rfl, eD2, hl, hk⟩
      refine ⟨_, rfl, q ft H' D ks s2 hD eD2 ?_⟩
      rcases hk with ⟨k0, k1, k3⟩ | ⟨pre, b, k1, k3, k4, k5, k6⟩
      · subst k1; exact k0.symm
      · rw [k1]; exact k6 [] ⟨rfl, ws.length, k3, Nat.le_refl _, k5, .inl rfl, rfl⟩

def vo : Option Int → V
  | none => .non
  | some i => .int i
def ol (xs : List (Option Int)) (e : Nat) : Option Int := xs.getD e none
theorem ol_get {xs : List (Option Int)} {e : Nat} (h : e < xs.length) : (xs.map vo)[e]? = some (vo (ol xs e)) := by
  unfold ol
  rw [List.getElem?_map, List.getD_eq_getElem?_getD, List.getElem?_eq_getElem h]; rfl
def sp_end_by (K : PySem.W.Frag) : Sp := fun vs H Q _ => ∃ (p t : Addr) (ws : List (List Nat)) (n : Int) (xs : List (Option Int)) (a : Nat), vs = [.ref p, .int n, .ref t, .int a] ∧ SqL K H p (vts ws) ∧ SqL K H t (xs.map vo) ∧ Bw ws ∧ Wb n ∧ xs.length = ws.length + 1 ∧ a < ws.length ∧
  (∀ e, BestL ws n (ol xs) a e → Q (.int (e : Nat)) H) ∧ (NoneL ws n (ol xs) a → Q .non H)
theorem ok_end_by (A : At K mg "end_by" ["words", "width", "layer", "at"] st_end_by) (T : Bts mg) : Ok P w K mg base CX0 1 "end_by" ["words", "width", "layer", "at"] (sp_end_by K) := by
  refine A.ok sc_end_by (fun vs H Q E h => ?_) (fun f cdv A outer s H vs Q E hr h => ?_)
  · obtain ⟨p, t, ws, n, xs, a, rfl, _⟩ := h; rfl
  · obtain ⟨p, t, ws, n, xs, a, rfl, hS, hT, hw, hn, hl, ha, q1, q2⟩ := h
    refine ⟨_, (pss_cons (ps_set (i := 4) sc_end_by.nd rfl (Or.inl rfl) pe_non)
      (pss_cons (ps_set (i := 5) sc_end_by.nd rfl (Or.inl rfl) pe_int)
      (pss_cons (ps_set (i := 6) sc_end_by.nd rfl (Or.inl rfl) (pe_op op_add (pv 1) pe_int))
      (pss_cons (ps_for PassesOwn.never rfl (pi_range2 (by rfl) T.m_range (pa_cons (pe_op op_add (pv 3) pe_int) (pa_cons (pe_op op_add (pe_callB (call_lenK K) (by rfl) T.m_len PySem.boot_len (pa_cons (pv 0) pa_nil)) pe_int) pa_nil))) (pg_name (i := 7) sc_end_by.nd rfl (Or.inl rfl))
      (pss_cons (ps_set (i := 6) sc_end_by.nd rfl (Or.inl rfl) (pe_op op_sub (pe_op op_sub (pv 6) pe_int) (pe_callB call_len_str (by rfl) T.m_len PySem.boot_len (pa_cons (pe_ix (ix_listK K) (pv 0) (pe_op op_sub (pv 7) pe_int) (fun _ _ => rfl)) pa_nil))))
      (pss_cons (ps_if (pt_cmpR op_lt (pv 6) pe_int (nomark _)) (pss_one (ps_ret (pv 4))) pss_nil)
      (pss_one (ps_if (pt_cmpR op_notN (pe_ix (ix_listK K) (pv 2) (pv 7) (fun _ _ => rfl)) pe_non (nomark _)) (pss_cons (ps_set (i := 8) sc_end_by.nd rfl (Or.inl rfl) (pe_ix (ix_listK K) (pv 2) (pv 7) (fun _ _ => rfl)))
      (C8.pss_cut (ps_if (pt_cmpR op_lt (pv 7) (pe_callB (call_lenK K) (by rfl) T.m_len PySem.boot_len (pa_cons (pv 0) pa_nil)) (nomark _)) (pss_one (ps_set (i := 8) sc_end_by.nd rfl (Or.inl rfl) (pe_op op_add (pv 8) (pe_op op_mulW (pv 6) (pv 6))))) pss_nil)
      (pss_one (ps_if (PW.pt (pw_or (pt_cmpR op_isN (pv 4) pe_non (nomark _)) (pw_or1 (pt_cmpR op_le (pv 8) (pv 5) (nomark _))))) (pss_cons (ps_set (i := 4) sc_end_by.nd rfl (Or.inl rfl) (pv 7))
      (pss_one (ps_set (i := 5) sc_end_by.nd rfl (Or.inl rfl) (pv 8)))) pss_nil)))) pss_nil)))))
      (pss_one (ps_ret (pv 4))))))), ?_⟩
    have hle := hw.le
    refine ⟨_, rfl, _, _, rfl, rfl, ?_⟩
    refine ⟨_, rfl, _, _, rfl, rfl, _, rfl, p, _, rfl, .inl hS, _, _, rfl, rfl, _, _, rfl, ⟨by omega, by omega, by rw [List.length_map]; omega, by rw [List.length_map]; omega⟩, ?_⟩
    -- what is found among the ends up to c
    have back : ∀ c, (c = a ∨ (a < c ∧ ((size ws a c : Nat) : Int) ≤ n)) → (c = ws.length ∨ n < ((size ws a (c + 1) : Nat) : Int)) → c ≤ ws.length → ∀ e', a < e' → e' ≤ ws.length → ((size ws a e' : Nat) : Int) ≤ n → e' ≤ c := fun c _ h hc e' g1 g2 g3 => by
      rcases h with h | h
      · omega
      · rcases Nat.lt_or_ge c e' with z | z
        · have := size_mono (ws := ws) (Nat.le_refl a) (show a < c + 1 by omega) (show c + 1 ≤ e' by omega) g2
          omega
        · exact z
    refine for_range (n := (((vts ws).length : Int) + 1 - ((a : Int) + 1)).toNat) (fun i σ H' => H' = H ∧ ∃ (fv : V) (ls gp : Int) (y z : Option V), σ = [some (.ref p), some (.int n), some (.ref t), some (.int a), some fv, some (.int ls), some (.int gp), y, z] ∧
      a + i ≤ ws.length ∧ ((i = 0 ∧ gp = n + 1) ∨ (0 < i ∧ gp = n - (size ws a (a + i) : Nat) ∧ ((size ws a (a + i) : Nat) : Int) ≤ n)) ∧
      ((fv = .non ∧ ∀ e', a < e' → e' ≤ a + i → ol xs e' = none) ∨ ∃ (f : Nat) (v : Int), fv = .int (f : Nat) ∧ a < f ∧ f ≤ a + i ∧ ol xs f = some v ∧ ls = pr ws n a f + v ∧ ∀ e' v', a < e' → e' ≤ a + i → ol xs e' = some v' → ls ≤ pr ws n a e' + v' ∧ (ls = pr ws n a e' + v' → e' ≤ f))) ?_ ?_ ?_
    · exact ⟨rfl, .non, 0, n + 1, none, none, rfl, by omega, .inl ⟨rfl, rfl⟩, .inl ⟨rfl, fun e' h1 h2 => by omega⟩⟩
    · rintro i σ H' hi ⟨rfl, fv, ls, gp, y, z, rfl, f1, f2, f3⟩
      rw [List.length_map] at hi
      have hc : a + i < ws.length := by omega
      have gc : (vts ws)[a + i]? = some (vt ws[a + i]) := flat_get (List.getElem?_eq_getElem hc)
      have e1 : (a : Int) + 1 + (i : Int) = ((a + (i + 1) : Nat) : Int) := by omega
      have gt := ol_get (xs := xs) (e := a + (i + 1)) (by omega)
      have es : gp - 1 - (ws[a + i].length : Nat) = n - ((size ws a (a + (i + 1)) : Nat) : Int) := by
        rcases f2 with ⟨g1, g2⟩ | ⟨g1, g2, g3⟩
        · subst g1
          have := size_one ws (show a < ws.length by omega)
          show gp - 1 - ((ws[a].length : Nat) : Int) = n - ((size ws a (a + 1) : Nat) : Int)
          rw [this, g2]; omega
        · have := size_snoc ws (show a < a + i by omega) hc
          rw [show a + (i + 1) = a + i + 1 by omega, this, g2]; omega
      have hsz := hw.size a (a + (i + 1))
      refine (show gName 7 (V.int ((a : Int) + 1 + (i : Int))) _ _ _ from ?_)
      rw [e1]
      refine ⟨_, rfl, _, _, rfl, rfl, _, rfl, _, rfl, _, _, rfl, rfl, p, _, _, _, rfl, rfl, hS, at_of (show ((a + (i + 1) : Nat) : Int) - 1 = ((a + i : Nat) : Int) by omega) gc, tx ws[a + i], rfl, by rw [tx_len]; exact sz (by have := hw.wl (List.getElem_mem hc); omega), ?_⟩
      rw [tx_len]
      refine rI0_at (v := .int (n - (size ws a (a + (i + 1)) : Nat))) (congrArg V.int es) ?_
      refine ⟨_, rfl, _, _, rfl, rfl, _, rfl, tst (c := n - ((size ws a (a + (i + 1)) : Nat) : Int) < 0) rfl (fun h1 => ?_) (fun h1 => ?_)⟩
      · have hbk := back (a + i) (by rcases f2 with ⟨g1, _⟩ | ⟨g1, _, g3⟩; exact .inl (by omega); exact .inr ⟨by omega, g3⟩) (.inr (by rw [show a + i + 1 = a + (i + 1) by omega]; omega)) (by omega)
        rcases f3 with ⟨rfl, f3⟩ | ⟨f, v, rfl, g1, g2, g3, g4, g5⟩
        · exact ⟨_, rfl, q2 fun e' h1 h2 h3 => f3 e' h1 (hbk e' h1 h2 h3)⟩
        · refine ⟨_, rfl, q1 f ⟨g1, by omega, ?_, v, g3, fun e' v' h1 h2 h3 h4 => by rw [← g4]; exact g5 e' v' h1 (hbk e' h1 h2 h3) h4⟩⟩
          rcases f2 with ⟨k1, _⟩ | ⟨k1, _, k3⟩
          · omega
          · have := size_mono (ws := ws) (Nat.le_refl a) g1 g2 f1
            omega
      have hfit : ((size ws a (a + (i + 1)) : Nat) : Int) ≤ n := by omega
      rcases ho : ol xs (a + (i + 1)) with _ | v
      · rw [ho] at gt
        refine ⟨_, rfl, _, rfl, t, _, _, _, rfl, rfl, hT, atI_nat gt, rfl, _, rfl, iteF ?_⟩
        refine ⟨rfl, fv, ls, _, _, _, rfl, by omega, .inr ⟨by omega, rfl, hfit⟩, ?_⟩
        rcases f3 with ⟨rfl, f3⟩ | ⟨f, v, rfl, g1, g2, g3, g4, g5⟩
        · refine .inl ⟨rfl, fun e' h1 h2 => ?_⟩
          rcases Nat.lt_or_ge (a + i) e' with l | l
          · rw [show e' = a + (i + 1) by omega]; exact ho
          · exact f3 e' h1 l
        · refine .inr ⟨f, v, rfl, g1, by omega, g3, g4, fun e' v' h1 h2 h4 => ?_⟩
          rcases Nat.lt_or_ge (a + i) e' with l | l
          · rw [show e' = a + (i + 1) by omega, ho] at h4; cases h4
          · exact g5 e' v' h1 l h4
      · rw [ho] at gt
        refine ⟨_, rfl, _, rfl, t, _, _, _, rfl, rfl, hT, atI_nat gt, rfl, _, rfl, iteT ?_⟩
        refine ⟨_, rfl, _, rfl, t, _, _, _, rfl, rfl, hT, atI_nat gt, ?_⟩
        refine ⟨fun σ H2 => H2 = H' ∧ σ = [some (.ref p), some (.int n), some (.ref t), some (.int a), some fv, some (.int ls), some (.int (n - (size ws a (a + (i + 1)) : Nat))), some (.int (a + (i + 1) : Nat)), some (.int (pr ws n a (a + (i + 1)) + v))], ?_, ?_⟩
        · refine ⟨_, rfl, _, rfl, p, _, rfl, .inl hS, _, _, rfl, rfl, _, rfl, tst (c := a + (i + 1) < ws.length) (by rw [List.length_map]; simp only [decide_eq_decide]; omega) (fun h2 => ?_) (fun h2 => ?_)⟩
          · refine ⟨_, rfl, _, rfl, _, rfl, _, _, rfl, rfl, hn.mul (by omega), _, _, rfl, rfl, rfl, ?_⟩
            rw [pr_gap (show ¬ a + (i + 1) = ws.length by omega), Int.add_comm]; rfl
          · refine ⟨rfl, ?_⟩
            rw [pr_last (show a + (i + 1) = ws.length by omega), Int.zero_add]; rfl
        rintro σ H2 ⟨rfl, rfl⟩
        have new : (ol xs (a + (i + 1)) = some v) := ho
        have take : (∀ e' v', a < e' → e' ≤ a + i → ol xs e' = some v' → pr ws n a (a + (i + 1)) + v ≤ pr ws n a e' + v') →
            ∃ (fv : V) (ls gp : Int) (y z : Option V), ([some (.ref p), some (.int n), some (.ref t), some (.int a), some (.int (a + (i + 1) : Nat)), some (.int (pr ws n a (a + (i + 1)) + v)), some (.int (n - (size ws a (a + (i + 1)) : Nat))), some (.int (a + (i + 1) : Nat)), some (.int (pr ws n a (a + (i + 1)) + v))] : List (Option V)) = [some (.ref p), some (.int n), some (.ref t), some (.int a), some fv, some (.int ls), some (.int gp), y, z] ∧
            a + (i + 1) ≤ ws.length ∧ ((i + 1 = 0 ∧ gp = n + 1) ∨ (0 < i + 1 ∧ gp = n - (size ws a (a + (i + 1)) : Nat) ∧ ((size ws a (a + (i + 1)) : Nat) : Int) ≤ n)) ∧
            ((fv = .non ∧ ∀ e', a < e' → e' ≤ a + (i + 1) → ol xs e' = none) ∨ ∃ (f : Nat) (v : Int), fv = .int (f : Nat) ∧ a < f ∧ f ≤ a + (i + 1) ∧ ol xs f = some v ∧ ls = pr ws n a f + v ∧ ∀ e' v', a < e' → e' ≤ a + (i + 1) → ol xs e' = some v' → ls ≤ pr ws n a e' + v' ∧ (ls = pr ws n a e' + v' → e' ≤ f)) := fun k => by
          refine ⟨_, _, _, _, _, rfl, by omega, .inr ⟨by omega, rfl, hfit⟩, .inr ⟨a + (i + 1), v, rfl, by omega, Nat.le_refl _, new, rfl, fun e' v' h1 h2 h4 => ?_⟩⟩
          rcases Nat.lt_or_ge (a + i) e' with l | l
          · have : e' = a + (i + 1) := by omega
            subst this
            rw [new] at h4
            cases h4
            exact ⟨Int.le_refl _, fun _ => Nat.le_refl _⟩
          · exact ⟨k e' v' h1 l h4, fun _ => h2⟩
        rcases f3 with ⟨rfl, f3⟩ | ⟨f, u, rfl, g1, g2, g3, g4, g5⟩
        · refine ⟨_, rfl, rfl, _, rfl, ?_⟩
          refine iteT ?_
          refine iteT ?_
          exact ⟨_, rfl, _, rfl, rfl, take fun e' v' h1 h2 h4 => by rw [f3 e' h1 h2] at h4; cases h4⟩
        · refine ⟨_, rfl, rfl, _, rfl, ?_⟩
          refine iteF ?_
          refine ⟨_, rfl, _, rfl, _, _, rfl, rfl, _, rfl, tst (c := pr ws n a (a + (i + 1)) + v ≤ ls) rfl (fun h2 => ?_) (fun h2 => ?_)⟩
          · exact ⟨_, rfl, _, rfl, rfl, take fun e' v' h1 h3 h4 => by have := (g5 e' v' h1 h3 h4).1; omega⟩
          · refine ⟨rfl, _, _, _, _, _, rfl, by omega, .inr ⟨by omega, rfl, hfit⟩, .inr ⟨f, u, rfl, g1, by omega, g3, g4, fun e' v' h1 h3 h4 => ?_⟩⟩
            rcases Nat.lt_or_ge (a + i) e' with l | l
            · have : e' = a + (i + 1) := by omega
              subst this
              rw [new] at h4
              cases h4
              exact ⟨by omega, fun z => by omega⟩
            · exact g5 e' v' h1 l h4
    · rintro σ H' ⟨rfl, fv, ls, gp, y, z, rfl, f1, f2, f3⟩
      have hii : a + (((vts ws).length : Int) + 1 - ((a : Int) + 1)).toNat = ws.length := by rw [List.length_map]; omega
      rw [hii] at f1 f2 f3
      rcases f3 with ⟨rfl, f3⟩ | ⟨f, v, rfl, g1, g2, g3, g4, g5⟩
      · exact ⟨_, rfl, q2 fun e' h1 h2 h3 => f3 e' h1 h2⟩
      · refine ⟨_, rfl, q1 f ⟨g1, by omega, ?_, v, g3, fun e' v' h1 h2 h3 h4 => by rw [← g4]; exact g5 e' v' h1 h2 h4⟩⟩
        rcases f2 with ⟨k1, _⟩ | ⟨k1, _, k3⟩
        · rw [List.length_map] at k1; omega
        · have := size_mono (ws := ws) (Nat.le_refl a) g1 g2 f1
          omega

theorem vo_none (n : Nat) : (List.replicate n (none : Option Int)).map vo = List.replicate n V.non := by rw [List.map_replicate]; rfl
theorem ol_set {xs : List (Option Int)} {i : Nat} {v : Option Int} (k : Nat) (hi : i < xs.length) : ol (xs.set i v) k = if i = k then v else ol xs k := by
  unfold ol
  rw [List.getD_eq_getElem?_getD, List.getD_eq_getElem?_getD, List.getElem?_set]
  by_cases h : i = k
  · subst h
    rw [if_pos rfl, if_pos hi, if_pos rfl]; rfl
  · rw [if_neg h, if_neg h]
def sp_next_layer (K : PySem.W.Frag) : Sp := fun vs H Q _ => ∃ (p t : Addr) (ws : List (List Nat)) (n : Int) (xs : List (Option Int)), vs = [.ref p, .int n, .ref t] ∧ SqL K H p (vts ws) ∧ SqL K H t (xs.map vo) ∧ Bw ws ∧ Wb n ∧ xs.length = ws.length + 1 ∧
  ∀ H' o ys, Same H H' → H o = none → H' o = some (.lst (ys.map vo)) → ys.length = ws.length + 1 → NextL ws n (ol xs) (ol ys) → Q (.ref o) H'
theorem ok_next_layer (A : At K mg "next_layer" ["words", "width", "layer"] st_next_layer) (T : Bts mg) (G_line_price : Ok P w K mg base CX0 2 "line_price" ["words", "width", "begin", "end"] (sp_line_price K))
    (G_end_by : Ok P w K mg base CX0 1 "end_by" ["words", "width", "layer", "at"] (sp_end_by K)) :
    Ok P w K mg base CX0 3 "next_layer" ["words", "width", "layer"] (sp_next_layer K) := by
  refine A.ok sc_next_layer (fun vs H Q E h => ?_) (fun f cdv A outer s H vs Q E hr h => ?_)
  · obtain ⟨p, t, ws, n, xs, rfl, _⟩ := h; rfl
  · obtain ⟨p, t, ws, n, xs, rfl, hS, hT, hw, hn, hl, q⟩ := h
    refine ⟨_, (pss_cons (ps_set (i := 3) sc_next_layer.nd rfl (Or.inl rfl) (pe_op op_cat (pe_lc (own := [("word", 6)]) (g := gName 6) (tt := tYes) rfl sc_next_layer.nd (pi_list (pv 0)) (blkOk_by (own := [("word", 6)]) (N := N_next_layer) (sc := defScope st_next_layer) (by decide +kernel)) (fun _ _ _ _ _ => pg_name (i := 6) sc_next_layer.nd rfl (Or.inl rfl)) (fun _ _ _ _ _ => pts_nil) (fun _ _ _ _ _ => pe_non)) (pe_lst (pa_cons pe_non pa_nil))))
      (pss_cons (ps_for PassesOwn.never rfl (pi_range1 (by rfl) T.m_range (pa_cons (pe_callB (call_lenK K) (by rfl) T.m_len PySem.boot_len (pa_cons (pv 0) pa_nil)) pa_nil)) (pg_name (i := 4) sc_next_layer.nd rfl (Or.inl rfl))
      (pss_cons (ps_set (i := 5) sc_next_layer.nd rfl (Or.inl rfl) (pe_cd G_end_by (hr.mono (by decide)) pass0 (pa_cons (pv 0) (pa_cons (pv 1) (pa_cons (pv 2) (pa_cons (pv 4) pa_nil))))))
      (pss_one (ps_if (pt_cmpR op_notN (pv 5) pe_non (nomark _)) (pss_one (ps_asg (pe_op op_add (pe_cd G_line_price (hr.mono (by decide)) pass0 (pa_cons (pv 0) (pa_cons (pv 1) (pa_cons (pv 4) (pa_cons (pv 5) pa_nil))))) (pe_ix (ix_listK K) (pv 2) (pv 5) (fun _ _ => rfl))) (pg_sub (pv 3) (pv 4) set_list))) pss_nil))))
      (pss_one (ps_ret (pv 3))))), ?_⟩
    have hle := hw.le
    refine ⟨_, rfl, p, rfl, ⟨_, hS⟩, fun D hD => ?_⟩
    refine lc_list (xs := vts ws) (fun i H' => Same H H' ∧ H' D = some (.lst (List.replicate i V.non))) ?_ ?_ ?_ ?_
    · exact ⟨(Same.refl H).new hD, upd_same⟩
    · rintro i H' _ ⟨s1, _⟩; exact s1.seq hS
    · rintro i x H' hx ⟨s1, eD⟩
      have hi : i < ws.length := by have := (List.getElem?_eq_some_iff.mp hx).1; simpa using this
      refine ⟨rfl, ?_⟩
      refine ⟨_, eD, by rw [List.length_replicate]; exact szl (by omega), s1.put hD, ?_⟩
      rw [upd_same, List.replicate_succ']
    rintro H1 ⟨s1, eD⟩
    rw [List.length_map] at eD
    refine ⟨sz (by simp), fun d nd => ?_⟩
    have s2 := s1.new (o := HO.lst [V.non]) nd
    have eD2 := kept eD nd (o := HO.lst [V.non])
    refine ⟨D, d, _, _, rfl, rfl, eD2, upd_same, sz (by rw [List.length_replicate]; simp; omega), fun o no => ?_⟩
    have ev : List.replicate ws.length V.non ++ [V.non] = (List.replicate (ws.length + 1) (none : Option Int)).map vo := by rw [vo_none, List.replicate_succ']
    rw [ev]
    have s3 := s2.new (o := HO.lst ((List.replicate (ws.length + 1) (none : Option Int)).map vo)) no
    have no' := s2.free no
    have eo := upd_same (H := upd H1 d (HO.lst [V.non])) (a := o) (o := HO.lst ((List.replicate (ws.length + 1) (none : Option Int)).map vo))
    generalize upd (upd H1 d (HO.lst [V.non])) o (HO.lst ((List.replicate (ws.length + 1) (none : Option Int)).map vo)) = H3 at s3 eo ⊢
    have orep : ∀ m k : Nat, ol (List.replicate m none) k = none := fun m k => by
      unfold ol
      rw [List.getD_eq_getElem?_getD]
      rcases Nat.lt_or_ge k m with h | h
      · rw [List.getElem?_replicate, if_pos h]; rfl
      · rw [List.getElem?_eq_none (by rw [List.length_replicate]; exact h)]; rfl
    refine ⟨_, rfl, p, _, rfl, .inl (s3.seq hS), ws.length, by rw [List.length_map], by omega, by omega, ?_⟩
    refine for_range (n := ws.length) (fun i σ H' => Same H H' ∧ ∃ (ys : List (Option Int)) (y z u : Option V), σ = [some (.ref p), some (.int n), some (.ref t), some (.ref o), y, z, u] ∧ H' o = some (.lst (ys.map vo)) ∧ ys.length = ws.length + 1 ∧ (∀ a, i ≤ a → ol ys a = none) ∧
      ∀ a, a < i → (ol ys a = none ∧ NoneL ws n (ol xs) a) ∨ ∃ e v, BestL ws n (ol xs) a e ∧ ol xs e = some v ∧ ol ys a = some (pr ws n a e + v)) ?_ ?_ ?_
    · exact ⟨s3, _, none, none, none, rfl, eo, by simp, fun a _ => orep _ _, fun a h => absurd h (Nat.not_lt_zero _)⟩
    · rintro i σ H' hi ⟨s4, ys, y, z, u, rfl, eo4, yl, h1, h2⟩
      have e0 : (0 + (i : Int)) = (i : Int) := by omega
      refine (show gName 4 (V.int (0 + (i : Int))) _ _ _ from ?_)
      rw [e0]
      refine ⟨_, rfl, _, rfl, _, rfl, _, rfl, p, t, ws, n, xs, i, rfl, s4.seq hS, s4.seq hT, hw, hn, hl, hi, fun e hb => ?_, fun hN => ?_⟩
      · obtain ⟨v, hv⟩ := hb.2.2.2
        refine ⟨_, rfl, rfl, _, rfl, iteT ?_⟩
        have gt := ol_get (xs := xs) (e := e) (by have := hb.2.1; omega)
        rw [hv.1] at gt
        refine ⟨_, rfl, _, rfl, _, rfl, _, rfl, p, ws, n, i, e, rfl, s4.seq hS, hw, hn, Nat.le_of_lt hb.1, hb.2.1, fun H5 s5 => ?_⟩
        have eo5 := s5 _ _ eo4
        have s45 := s4.trans s5
        have hex : ixN (ys.map vo).length (i : Int) = some i := by
          unfold ixN
          rw [if_pos (by omega), if_pos (by rw [List.length_map]; omega)]; simp
        refine ⟨_, rfl, _, rfl, t, _, _, _, rfl, rfl, s45.seq hT, atI_nat gt, _, _, rfl, rfl, _, rfl, _, rfl, o, _, _, i, rfl, rfl, eo5, hex, ?_⟩
        refine ⟨s45.put no', ys.set i (some (pr ws n i e + v)), _, _, u, rfl, ?_, by rw [List.length_set]; exact yl, fun a ha => ?_, fun a ha => ?_⟩
        · rw [upd_same, List.map_set]; rfl
        · rw [ol_set a (by omega), if_neg (by omega)]; exact h1 a (by omega)
        · rw [ol_set a (by omega)]
          by_cases c : i = a
          · subst c
            rw [if_pos rfl]; exact .inr ⟨e, v, hb, hv.1, rfl⟩
          · rw [if_neg c]; exact h2 a (by omega)
      · refine ⟨_, rfl, rfl, _, rfl, iteF ?_⟩
        refine ⟨s4, ys, _, _, u, rfl, eo4, yl, fun a ha => h1 a (by omega), fun a ha => ?_⟩
        by_cases c : i = a
        · subst c; exact .inl ⟨h1 i (Nat.le_refl i), hN⟩
        · exact h2 a (by omega)
    · rintro σ H' ⟨s4, ys, y, z, u, rfl, eo4, yl, h1, h2⟩
      exact ⟨_, rfl, q H' o ys s4 no' eo4 yl ⟨h1 _ (Nat.le_refl _), h2⟩⟩

/-- refs to layers -/
def Lrs (H : Hp) (ts : List Addr) (ws : List (List Nat)) (L : Nat → Nat → Option Int) : Prop := ∀ (k : Nat) (t : Addr), ts[k]? = some t → ∃ xs : List (Option Int), H t = some (.lst (xs.map vo)) ∧ xs.length = ws.length + 1 ∧ L k = ol xs
def sp_layers_of (K : PySem.W.Frag) : Sp := fun vs H Q _ => ∃ (p : Addr) (ws : List (List Nat)) (n : Int) (m : Nat), vs = [.ref p, .int n, .int m] ∧ SqL K H p (vts ws) ∧ Bw ws ∧ Wb n ∧ m ≤ 100000 ∧
  ∀ H' o ts L, Same H H' → H o = none → H' o = some (.lst (ts.map V.ref)) → ts.length = m + 1 → Lrs H' ts ws L → Lays ws n m L → Q (.ref o) H'
theorem ok_layers_of (A : At K mg "layers_of" ["words", "width", "many"] st_layers_of) (T : Bts mg) (G_next_layer : Ok P w K mg base CX0 3 "next_layer" ["words", "width", "layer"] (sp_next_layer K)) :
    Ok P w K mg base CX0 4 "layers_of" ["words", "width", "many"] (sp_layers_of K) := by
  refine A.ok sc_layers_of (fun vs H Q E h => ?_) (fun f cdv A outer s H vs Q E hr h => ?_)
  · obtain ⟨p, ws, n, m, rfl, _⟩ := h; rfl
  · obtain ⟨p, ws, n, m, rfl, hS, hw, hn, hm, q⟩ := h
    refine ⟨_, (pss_cons (ps_set (i := 3) sc_layers_of.nd rfl (Or.inl rfl) (pe_lst (pa_cons (pe_op op_cat (pe_lc (own := [("word", 5)]) (g := gName 5) (tt := tYes) rfl sc_layers_of.nd (pi_list (pv 0)) (blkOk_by (own := [("word", 5)]) (N := N_layers_of) (sc := defScope st_layers_of) (by decide +kernel)) (fun _ _ _ _ _ => pg_name (i := 5) sc_layers_of.nd rfl (Or.inl rfl)) (fun _ _ _ _ _ => pts_nil) (fun _ _ _ _ _ => pe_non)) (pe_lst (pa_cons pe_int pa_nil))) pa_nil)))
      (pss_cons (ps_for PassesOwn.never rfl (pi_range1 (by rfl) T.m_range (pa_cons (pv 2) pa_nil)) (pg_name (i := 4) sc_layers_of.nd rfl (Or.inl rfl))
      (pss_one (ps_expr (pe_bm PySem.F.plainAttrs_list PySem.F.slot_list_append PySem.F.type_list_append mt_append (pv 3) (pa_cons (pe_cd G_next_layer (hr.mono (by decide)) pass0 (pa_cons (pv 0) (pa_cons (pv 1) (pa_cons (pe_ix (ix_listK K) (pv 3) (pe_un un_neg pe_int) (fun _ _ => rfl)) pa_nil)))) pa_nil)))))
      (pss_one (ps_ret (pv 3))))), ?_⟩
    have hle := hw.le
    refine ⟨_, rfl, p, rfl, ⟨_, hS⟩, fun D hD => ?_⟩
    refine lc_list (xs := vts ws) (fun i H' => Same H H' ∧ H' D = some (.lst (List.replicate i V.non))) ?_ ?_ ?_ ?_
    · exact ⟨(Same.refl H).new hD, upd_same⟩
    · rintro i H' _ ⟨s1, _⟩; exact s1.seq hS
    · rintro i x H' hx ⟨s1, eD⟩
      have hi : i < ws.length := by have := (List.getElem?_eq_some_iff.mp hx).1; simpa using this
      refine ⟨rfl, ?_⟩
      refine ⟨_, eD, by rw [List.length_replicate]; exact szl (by omega), s1.put hD, ?_⟩
      rw [upd_same, List.replicate_succ']
    rintro H1 ⟨s1, eD⟩
    rw [List.length_map] at eD
    refine ⟨sz (by simp), fun d nd => ?_⟩
    have s2 := s1.new (o := HO.lst [V.int 0]) nd
    have eD2 := kept eD nd (o := HO.lst [V.int 0])
    refine ⟨D, d, _, _, rfl, rfl, eD2, upd_same, sz (by rw [List.length_replicate]; simp; omega), fun t0 nt0 => ?_⟩
    have ev : List.replicate ws.length V.non ++ [V.int 0] = (List.replicate ws.length (none : Option Int) ++ [some 0]).map vo := by rw [List.map_append, vo_none]; rfl
    rw [ev]
    have s3 := s2.new (o := HO.lst ((List.replicate ws.length (none : Option Int) ++ [some 0]).map vo)) nt0
    have et0 := upd_same (H := upd H1 d (HO.lst [V.int 0])) (a := t0) (o := HO.lst ((List.replicate ws.length (none : Option Int) ++ [some 0]).map vo))
    generalize upd (upd H1 d (HO.lst [V.int 0])) t0 (HO.lst ((List.replicate ws.length (none : Option Int) ++ [some 0]).map vo)) = H3 at s3 et0 ⊢
    refine ⟨sz (by simp), fun o no => ?_⟩
    have s4 := s3.new (o := HO.lst [V.ref t0]) no
    have no' := s3.free no
    have et4 := kept et0 no (o := HO.lst [V.ref t0])
    have eo4 : (upd H3 o (HO.lst [V.ref t0])) o = some (.lst ([t0].map V.ref)) := upd_same
    have t0o : t0 ≠ o := fun z => by rw [z, no] at et0; cases et0
    generalize upd H3 o (HO.lst [V.ref t0]) = H4 at s4 et4 eo4 ⊢
    have z0 : Lay0 ws (ol (List.replicate ws.length (none : Option Int) ++ [some 0])) := by
      refine ⟨?_, fun a ha => ?_⟩
      · unfold ol
        rw [List.getD_eq_getElem?_getD, List.getElem?_append_right (by rw [List.length_replicate]; exact Nat.le_refl _), List.length_replicate, Nat.sub_self]; rfl
      · unfold ol
        rw [List.getD_eq_getElem?_getD, List.getElem?_append_left (by rw [List.length_replicate]; exact ha), List.getElem?_replicate, if_pos ha]; rfl
    refine ⟨_, rfl, m, rfl, by omega, by omega, ?_⟩
    rw [Int.toNat_natCast]
    refine for_range (n := m) (fun i σ H' => Same H H' ∧ ∃ (ts : List Addr) (L : Nat → Nat → Option Int) (y z : Option V), σ = [some (.ref p), some (.int n), some (.int (m : Nat)), some (.ref o), y, z] ∧ H' o = some (.lst (ts.map V.ref)) ∧ ts.length = i + 1 ∧ (∀ t ∈ ts, t ≠ o) ∧ Lrs H' ts ws L ∧ Lays ws n i L) ?_ ?_ ?_
    · refine ⟨s4, [t0], fun _ => ol (List.replicate ws.length (none : Option Int) ++ [some 0]), none, none, rfl, eo4, rfl, fun t ht => by rw [List.mem_singleton.mp ht]; exact t0o, fun k t hk => ?_, ⟨z0, fun k hk => absurd hk (Nat.not_lt_zero _)⟩⟩
      cases k with
      | zero => cases hk; exact ⟨_, et4, by simp, rfl⟩
      | succ k => simp at hk
    · rintro i σ H' hi ⟨s5, ts, L, y, z, rfl, eo5, hl, hto, hL, hLs⟩
      have hne : ts ≠ [] := fun z => by rw [z] at hl; simp at hl
      obtain ⟨tl, htl⟩ : ∃ tl, ts[i]? = some tl := ⟨_, List.getElem?_eq_getElem (by omega)⟩
      obtain ⟨xs, ex, xl, hLx⟩ := hL i tl htl
      have hat : atI (ts.map V.ref) (-1) = some (.ref tl) := by
        have hm' : ts.map V.ref ≠ [] := fun z => hne (List.map_eq_nil_iff.mp z)
        rw [atI_neg1 hm', List.getLast_map, List.getLast_eq_getElem]
        have := List.getElem?_eq_some_iff.mp htl
        have e : ts.length - 1 = i := by omega
        simp only [e]
        rw [this.2]
      refine ⟨_, rfl, .inl ⟨rfl, _, .of eo5⟩, _, rfl, _, rfl, _, rfl, _, rfl, o, _, _, _, rfl, rfl, .of eo5, hat, p, tl, ws, n, xs, rfl, s5.seq hS, .of ex, hw, hn, xl, fun H6 t ys s6 nt et yl hN => ?_⟩
      have eo6 := s6 _ _ eo5
      have nto : t ≠ o := fun z => by rw [z, eo5] at nt; cases nt
      refine ⟨o, _, _, rfl, rfl, eo6, by rw [List.length_map]; exact szl (by omega), (s5.trans s6).put no', ts ++ [t], fun k => if k = i + 1 then ol ys else L k, _, z, rfl, by rw [upd_same, List.map_append]; rfl, by rw [List.length_append, hl]; rfl, fun t' ht' => ?_, fun k t' hk => ?_, ⟨?_, fun k hk => ?_⟩⟩
      · rcases List.mem_append.mp ht' with z | z
        · exact hto t' z
        · rw [List.mem_singleton.mp z]; exact nto
      · rcases Nat.lt_or_ge k ts.length with c | c
        · rw [List.getElem?_append_left c] at hk
          obtain ⟨xs', e', xl', hx'⟩ := hL k t' hk
          refine ⟨xs', by rw [upd_ne (hto t' (List.mem_of_getElem? hk))]; exact s6 _ _ e', xl', ?_⟩
          show (if k = i + 1 then ol ys else L k) = _
          rw [if_neg (by omega)]; exact hx'
        · rw [List.getElem?_append_right c] at hk
          have hk' : k = i + 1 := by
            have := (List.getElem?_eq_some_iff.mp hk).1
            simp at this; omega
          subst hk'
          rw [hl, Nat.sub_self] at hk
          cases hk
          refine ⟨ys, by rw [upd_ne nto]; exact et, yl, ?_⟩
          show (if i + 1 = i + 1 then ol ys else L (i + 1)) = _
          rw [if_pos rfl]
      · show Lay0 ws (if 0 = i + 1 then ol ys else L 0)
        rw [if_neg (by omega)]; exact hLs.zero
      · show NextL ws n (if k = i + 1 then ol ys else L k) (if k + 1 = i + 1 then ol ys else L (k + 1))
        rw [if_neg (by omega)]
        by_cases c : k = i
        · subst c
          rw [if_pos rfl, hLx]; exact hN
        · rw [if_neg (by omega)]; exact hLs.next k (by omega)
    · rintro σ H' ⟨s5, ts, L, y, z, rfl, eo5, hl, hto, hL, hLs⟩
      exact ⟨_, rfl, q H' o ts L s5 no' eo5 hl hL hLs⟩

def sp_starts_in (K : PySem.W.Frag) (ea : EA) : Sp := fun vs H Q E => ∃ (p : Addr) (ws : List (List Nat)) (n m : Int), vs = [.ref p, .int n, .int m] ∧ SqL K H p (vts ws) ∧ Bw ws ∧ Wb n ∧
  (n < 1 → E (.ref ea.nw) none H) ∧ (1 ≤ n → n < (longest ws : Nat) → E (.ref ea.lw) none H) ∧
  (Ft ws n → ∀ qs, Qk ws n 0 qs → (m < (qs.length : Nat) → ∀ H', Same H H' → E (.ref ea.tf) none H') ∧ ((qs.length : Int) ≤ m → (ws.length : Int) < m → ∀ H', Same H H' → E (.ref ea.tm) none H')) ∧
  (Ft ws n → ∀ (k : Nat) L H' o ks, m = (k : Int) → k ≤ ws.length → Lays ws n k L → ks.length = k → BcL ws n L 0 ks → Same H H' → H o = none → H' o = some (.lst (vis (toI ks))) → Q (.ref o) H')
theorem ok_starts_in {ea : EA} (A : At K mg "starts_in" ["words", "width", "many"] st_starts_in) (T : Bts mg) (X : Xs K mg ea) (G_quick_starts : Ok P w K mg base (CXn P w) 4 "quick_starts" ["words", "width"] (sp_quick_starts K ea))
    (G_layers_of : Ok P w K mg base CX0 4 "layers_of" ["words", "width", "many"] (sp_layers_of K)) (G_end_by : Ok P w K mg base CX0 1 "end_by" ["words", "width", "layer", "at"] (sp_end_by K)) :
    Ok P w K mg base (CXn P w) 5 "starts_in" ["words", "width", "many"] (sp_starts_in K ea) := by
  refine A.okX sc_starts_in (fun vs H Q E h => ?_) (fun f cdv A outer s H vs Q E hr h => ?_)
  · obtain ⟨p, ws, n, m, rfl, _⟩ := h; rfl
  · obtain ⟨p, ws, n, m, rfl, hS, hw, hn, e1, e2, e3, q⟩ := h
    refine ⟨_, (pss_cons (ps_if (pt_cmpR op_lt (pv 2) (pe_callB (call_lenK K) (by rfl) T.m_len PySem.boot_len (pa_cons (pe_cd G_quick_starts (hr.mono (by decide)) passR (pa_cons (pv 0) (pa_cons (pv 1) pa_nil))) pa_nil)) (nomark _)) (pss_one (L2N.ps_raise rfl (L2N.takes_of rfl rfl rfl rfl) (X.c_TooFew.mk_raise (by rfl)))) pss_nil)
      (pss_cons (ps_if (pt_cmpR op_gt (pv 2) (pe_callB (call_lenK K) (by rfl) T.m_len PySem.boot_len (pa_cons (pv 0) pa_nil)) (nomark _)) (pss_one (L2N.ps_raise rfl (L2N.takes_of rfl rfl rfl rfl) (X.c_TooMany.mk_raise (by rfl)))) pss_nil)
      (PSs.nox (pss_cons (ps_set (i := 3) sc_starts_in.nd rfl (Or.inl rfl) (pe_cd G_layers_of (hr.mono (by decide)) pass0 (pa_cons (pv 0) (pa_cons (pv 1) (pa_cons (pv 2) pa_nil)))))
      (pss_cons (ps_set (i := 4) sc_starts_in.nd rfl (Or.inl rfl) (pe_lst pa_nil))
      (pss_cons (ps_set (i := 5) sc_starts_in.nd rfl (Or.inl rfl) pe_int)
      (pss_cons (ps_for PassesOwn.never rfl (pi_range1 (by rfl) T.m_range (pa_cons (pv 2) pa_nil)) (pg_name (i := 6) sc_starts_in.nd rfl (Or.inl rfl))
      (pss_cons (ps_expr (pe_bm PySem.F.plainAttrs_list PySem.F.slot_list_append PySem.F.type_list_append mt_append (pv 4) (pa_cons (pv 5) pa_nil)))
      (pss_one (ps_set (i := 5) sc_starts_in.nd rfl (Or.inl rfl) (pe_cd G_end_by (hr.mono (by decide)) pass0 (pa_cons (pv 0) (pa_cons (pv 1) (pa_cons (pe_ix (ix_listK K) (pv 3) (pe_op op_sub (pe_op op_sub (pv 2) pe_int) (pv 6)) (fun _ _ => rfl)) (pa_cons (pv 5) pa_nil)))))))))
      (pss_one (ps_ret (pv 4)))))))))), ?_⟩
    have hle := hw.le
    refine ⟨_, rfl, _, rfl, _, rfl, p, ws, n, rfl, hS, hw, e1, e2, fun ft H1 a qs s1 na ea' hq => ?_⟩
    obtain ⟨x1, x2⟩ := e3 ft qs hq
    refine ⟨a, _, rfl, .inl (.of ea'), _, _, rfl, rfl, _, rfl, tst (c := m < (qs.length : Nat)) (by rw [List.length_map, toI_length]) (fun h1 => x1 h1 H1 s1) (fun h1 => ?_)⟩
    refine ⟨_, rfl, _, rfl, p, _, rfl, .inl (s1.seq hS), _, _, rfl, rfl, _, rfl, tst (c := (ws.length : Int) < m) (by rw [List.length_map]) (fun h2 => x2 (by omega) h2 H1 s1) (fun h2 => ?_)⟩
    obtain ⟨k, rfl⟩ : ∃ k : Nat, m = (k : Int) := ⟨m.toNat, by omega⟩
    have hk : k ≤ ws.length := by omega
    obtain ⟨fs, hf1, hf2⟩ := hq.fc.many k (by omega) hk
    refine ⟨_, rfl, _, rfl, _, rfl, p, ws, n, k, rfl, s1.seq hS, hw, hn, by omega, fun H2 o ts L s2 no eo hl hL hLs => ?_⟩
    have s12 := s1.trans s2
    refine ⟨sz (by simp), fun D hD => ?_⟩
    have s3 := s12.new (o := HO.lst []) hD
    have k3 := (Same.refl H2).new (o := HO.lst []) hD
    have nD := s12.free hD
    have eD : (upd H2 D (HO.lst [])) D = some (.lst (vis (toI []))) := upd_same
    generalize upd H2 D (HO.lst []) = H3 at s3 k3 eD ⊢
    have oD : o ≠ D := fun z => by rw [z, hD] at eo; cases eo
    refine ⟨_, rfl, k, rfl, by omega, by omega, ?_⟩
    rw [Int.toNat_natCast]
    -- from a place x on there are chains of what is left
    refine for_range (n := k) (fun i σ H' => Same H H' ∧ (∀ b o, b ≠ D → H2 b = some o → H' b = some o) ∧ ∃ (x : Nat) (ks : List Nat) (z : Option V), σ = [some (.ref p), some (.int n), some (.int (k : Nat)), some (.ref o), some (.ref D), some (.int x), z] ∧ H' D = some (.lst (vis (toI ks))) ∧ ks.length = i ∧
      (∃ os, Fc ws n x os ∧ os.length = k - i) ∧ ∀ r, r.length = k - i → BcL ws n L x r → BcL ws n L 0 (ks ++ r)) ?_ ?_ ?_
    · exact ⟨s3, fun b o _ e => k3 _ _ e, 0, [], none, rfl, eD, rfl, ⟨fs, hf1, by omega⟩, fun r _ h => h⟩
    · rintro i σ H' hi ⟨s4, k4, x, ks, z, rfl, eD4, hkl, ⟨os, ho1, ho2⟩, hb⟩
      refine ⟨_, rfl, .inl ⟨rfl, _, .of eD4⟩, _, rfl, D, _, _, rfl, rfl, eD4, by rw [List.length_map, toI_length]; exact sz (by omega), ?_⟩
      have s5 := s4.put (o := HO.lst (vis (toI ks) ++ [V.int (x : Nat)])) nD
      have eD5 : (upd H' D (HO.lst (vis (toI ks) ++ [V.int (x : Nat)]))) D = some (.lst (vis (toI (ks ++ [x])))) := by
        rw [upd_same, toI_app]; exact congrArg some (congrArg HO.lst (vis_app _ _).symm)
      have k5 : ∀ b o, b ≠ D → H2 b = some o → (upd H' D (HO.lst (vis (toI ks) ++ [V.int (x : Nat)]))) b = some o := fun b o hb2 e => by rw [upd_ne hb2]; exact k4 b o hb2 e
      generalize upd H' D (HO.lst (vis (toI ks) ++ [V.int (x : Nat)])) = H5 at s5 eD5 k5 ⊢
      have hki : k - 1 - i < ts.length := by omega
      obtain ⟨t, ht⟩ : ∃ t, ts[k - 1 - i]? = some t := ⟨_, List.getElem?_eq_getElem hki⟩
      obtain ⟨xs, ex, xl, hLx⟩ := hL _ t ht
      have tD : t ≠ D := fun z => by rw [z, hD] at ex; cases ex
      have hxo : x < ws.length := by
        cases os with
        | nil => simp at ho2; omega
        | cons y r => obtain ⟨_, e, g1, g2, _⟩ := ho1; omega
      have eki : ((k : Int) - 1 - (0 + (i : Int))) = ((k - 1 - i : Nat) : Int) := by omega
      refine ⟨_, rfl, _, rfl, _, rfl, _, rfl, _, _, rfl, rfl, _, rfl, _, _, rfl, rfl, o, _, _, _, rfl, rfl, .of (k5 _ _ oD eo), at_of eki (flat_get ht), _, rfl, p, t, ws, n, xs, x, rfl, s5.seq hS, .of (k5 _ _ tD ex), hw, hn, xl, hxo, fun e hbe => ?_, fun hN => ?_⟩
      · rw [← hLx] at hbe
        refine ⟨s5, k5, e, ks ++ [x], some (.int (0 + (i : Int))), rfl, eD5, by rw [List.length_append, hkl]; rfl, ?_, fun r hr hbr => ?_⟩
        · -- the layer's number says that there is a chain
          have he2 := hbe.2.1
          obtain ⟨_, _, _, v, hv, _⟩ := hbe
          have ex2 : ∀ (j : Nat) (a : Nat) (v : Int), j ≤ k → a ≤ ws.length → L j a = some v → ∃ os, Fc ws n a os ∧ os.length = j := by
            intro j
            induction j with
            | zero =>
              intro a v _ ha hv
              rcases Nat.lt_or_eq_of_le ha with l | l
              · rw [hLs.zero.2 a l] at hv; cases hv
              · subst l; exact ⟨[], rfl, rfl⟩
            | succ j ih =>
              intro a v hj ha hv
              have hnx := hLs.next j (by omega)
              rcases Nat.lt_or_eq_of_le ha with l | l
              · rcases hnx.2 a l with ⟨z, _⟩ | ⟨e', v', hb', hv', _⟩
                · rw [z] at hv; cases hv
                · obtain ⟨os, o1, o2⟩ := ih e' v' (by omega) hb'.2.1 hv'
                  exact ⟨a :: os, ⟨rfl, e', hb'.1, hb'.2.1, hb'.2.2.1, o1⟩, by rw [List.length_cons, o2]⟩
              · subst l
                rw [hnx.1] at hv; cases hv
          obtain ⟨os', o1, o2⟩ := ex2 (k - 1 - i) e v (by omega) he2 hv
          exact ⟨os', o1, by omega⟩
        · rw [List.append_assoc]
          refine hb _ (by rw [List.length_append, hr]; simp; omega) ⟨rfl, e, ?_, hbr⟩
          show BestL ws n (L r.length) x e
          rw [show r.length = k - 1 - i by omega]; exact hbe
      · -- there is an end, as there is a chain
        cases os with
        | nil => simp at ho2; omega
        | cons y r =>
          obtain ⟨rfl, e, g1, g2, g3, g4⟩ := ho1
          obtain ⟨v, hv, _⟩ := hLs.le g4 (by simp only [List.length_cons] at ho2; omega)
          have := hN e g1 g2 g3
          rw [← hLx, show k - 1 - i = r.length by simp only [List.length_cons] at ho2; omega, hv] at this
          cases this
    · rintro σ H' ⟨s4, k4, x, ks, z, rfl, eD4, hkl, ⟨os, ho1, ho2⟩, hb⟩
      have hx : x = ws.length := by
        have : os = [] := List.length_eq_zero_iff.mp (by omega)
        subst this
        exact ho1
      have hbk := hb [] (by simp) hx
      rw [List.append_nil] at hbk
      exact ⟨_, rfl, q ft k L H' D ks rfl hk hLs hkl hbk s4 nD eD4⟩

def cell (ns : List Int) (k : Nat) : Int := ns.getD k 0
def sp__law_cell_at (K : PySem.W.Frag) : Sp := fun vs H Q _ => ∃ (a : Addr) (ns : List Int) (k : Nat), vs = [.ref a, .int k] ∧ SqL K H a (vis ns) ∧ Q (.int (cell ns k)) H
theorem ok__law_cell_at (A : At K mg "_law_cell_at" ["_law_script", "_law_k"] st__law_cell_at) (T : Bts mg) : Ok P w K mg base CX0 1 "_law_cell_at" ["_law_script", "_law_k"] (sp__law_cell_at K) := by
  refine A.ok sc__law_cell_at (fun vs H Q E h => ?_) (fun f cdv A outer s H vs Q E hr h => ?_)
  · obtain ⟨a, ns, k, rfl, _⟩ := h; rfl
  · obtain ⟨a, ns, k, rfl, hS, q⟩ := h
    refine ⟨_, (pss_cons (ps_if (pt_cmpR op_lt (pv 1) (pe_callB (call_lenK K) (by rfl) T.m_len PySem.boot_len (pa_cons (pv 0) pa_nil)) (nomark _)) (pss_one (ps_ret (pe_ix (ix_listK K) (pv 0) (pv 1) (fun _ _ => rfl)))) pss_nil)
      (pss_one (ps_ret pe_int))), ?_⟩
    refine ⟨_, rfl, _, rfl, a, _, rfl, .inl hS, _, _, rfl, rfl, _, rfl, tst (c := k < ns.length) ?_ (fun n => ?_) (fun n => ?_)⟩
    · rw [List.length_map]
      by_cases e : k < ns.length
      · rw [decide_eq_true e, decide_eq_true (by omega)]
      · rw [decide_eq_false e, decide_eq_false (by omega)]
    · refine ⟨_, rfl, _, rfl, a, _, _, _, rfl, rfl, hS, atI_nat (flat_get (List.getElem?_eq_getElem n)), ?_⟩
      have e : cell ns k = ns[k] := by
        unfold cell
        rw [List.getD_eq_getElem?_getD, List.getElem?_eq_getElem n]; rfl
      rw [e] at q; exact q
    · have e : cell ns k = 0 := by
        unfold cell
        rw [List.getD_eq_getElem?_getD, List.getElem?_eq_none (by omega)]; rfl
      rw [e] at q
      exact q

def signs : List Nat := [33, 34, 35, 36, 38, 39, 40, 41, 42, 43, 44, 45, 46, 47, 48, 49, 50, 51, 52, 53, 54, 55, 56, 57, 58, 59, 60, 61, 62, 63, 64, 65, 66, 67, 68, 69, 70, 71, 72, 73, 74, 75, 76, 77, 78, 79, 80, 81, 82, 83, 84, 85, 86, 87, 88, 89, 90, 91, 92, 93, 94, 95, 96]
def signs2 : List Nat := [97, 98, 99, 100, 101, 102, 103, 104, 105, 106, 107, 108, 109, 110, 111, 112, 113, 114, 115, 116, 117, 118, 119, 120, 121, 122, 123, 124, 125, 126]
def sign (n : Int) : Nat := (signs ++ signs2).getD (n % 93).toNat 33
theorem lit_signs : PySem.Str.ofString "!\"#$&'()*+,-./0123456789:;<=>?@ABCDEFGHIJKLMNOPQRSTUVWXYZ[\\]^_`" = tx signs := by decide +kernel
theorem lit_signs2 : PySem.Str.ofString "abcdefghijklmnopqrstuvwxyz{|}~" = tx signs2 := by decide +kernel
theorem sign_in (n : Int) : 33 ≤ sign n ∧ sign n ≤ 126 := by
  have h : ∀ k : Nat, k < 93 → 33 ≤ (signs ++ signs2).getD k 33 ∧ (signs ++ signs2).getD k 33 ≤ 126 := by decide +kernel
  exact h _ (by omega)
def sp__law_sign_by : Sp := fun vs H Q _ => ∃ n : Int, vs = [.int n] ∧ Q (vt [sign n]) H
theorem ok__law_sign_by (A : At K mg "_law_sign_by" ["_law_cell"] st__law_sign_by) (T : Bts mg) : Ok P w K mg base CX0 1 "_law_sign_by" ["_law_cell"] sp__law_sign_by := by
  refine A.ok sc__law_sign_by (fun vs H Q E h => ?_) (fun f cdv A outer s H vs Q E hr h => ?_)
  · obtain ⟨n, rfl, _⟩ := h; rfl
  · obtain ⟨n, rfl, q⟩ := h
    refine ⟨_, (pss_cons (ps_set (i := 1) sc__law_sign_by.nd rfl (Or.inl rfl) pe_str)
      (pss_cons (ps_set (i := 1) sc__law_sign_by.nd rfl (Or.inl rfl) (pe_op op_add_str (pv 1) pe_str))
      (pss_one (ps_ret (pe_ix ix_str (pv 1) (pe_op op_mod (pv 0) pe_int) (fun _ _ => rfl)))))), ?_⟩
    refine ⟨_, rfl, _, _, rfl, rfl, ?_, ?_⟩
    · rw [lit_signs, lit_signs2]; exact sz (by decide)
    · refine ⟨_, rfl, _, rfl, _, _, rfl, rfl, (show (0 : Int) < 93 by decide), tx (signs ++ signs2), n % 93, sign n, ?_, rfl, ?_, ?_, ?_⟩
      · rw [lit_signs, lit_signs2, tx_app]
      · rw [tx_len]; exact sz (by decide)
      · rw [tx_list, show n % 93 = ((n % 93).toNat : Nat) by omega]
        refine atI_nat ?_
        unfold sign
        rw [List.getD_eq_getElem?_getD]
        have h : (n % 93).toNat < (signs ++ signs2).length := by
          have : (signs ++ signs2).length = 93 := rfl
          omega
        rw [List.getElem?_eq_getElem h]; rfl
      · exact q

def sp__law_word_by : Sp := fun vs H Q _ => ∃ n : Int, vs = [.int n] ∧ ∀ H' w, Same H H' → Wd w → Q (vt w) H'
theorem ok__law_word_by (A : At K mg "_law_word_by" ["_law_cell"] st__law_word_by) (T : Bts mg) (G__law_sign_by : Ok P w K mg base CX0 1 "_law_sign_by" ["_law_cell"] sp__law_sign_by) :
    Ok P w K mg base CX0 2 "_law_word_by" ["_law_cell"] sp__law_word_by := by
  refine A.ok sc__law_word_by (fun vs H Q E h => ?_) (fun f cdv A outer s H vs Q E hr h => ?_)
  · obtain ⟨n, rfl, _⟩ := h; rfl
  · obtain ⟨c, rfl, q⟩ := h
    refine ⟨_, (pss_cons (ps_set (i := 1) sc__law_word_by.nd rfl (Or.inl rfl) (pe_op op_add pe_int (pe_op op_mod (pv 0) pe_int)))
      (C8.pss_cut (ps_if (pt_cmpR op_eq (pe_op op_mod (pe_op op_fdiv (pv 0) pe_int) pe_int) pe_int (nomark _)) (pss_one (ps_set (i := 1) sc__law_word_by.nd rfl (Or.inl rfl) (pe_op op_add pe_int (pe_op op_mod (pe_op op_fdiv (pv 0) pe_int) pe_int)))) pss_nil)
      (C8.pss_cut (ps_if (pt_cmpR op_eq (pe_op op_mod (pe_op op_fdiv (pv 0) pe_int) pe_int) pe_int (nomark _)) (pss_one (ps_set (i := 1) sc__law_word_by.nd rfl (Or.inl rfl) (pe_op op_add pe_int (pe_op op_mod (pe_op op_fdiv (pv 0) pe_int) pe_int)))) pss_nil)
      (pss_one (ps_ret (pe_joinK K pe_str (pe_lc (own := [("_law_k", 2)]) (g := gName 2) (tt := tYes) rfl sc__law_word_by.nd (pi_range1 (by rfl) T.m_range (pa_cons (pv 1) pa_nil)) (blkOk_by (own := [("_law_k", 2)]) (N := N__law_word_by) (sc := defScope st__law_word_by) (by decide +kernel)) (fun _ _ _ _ _ => pg_name (i := 2) sc__law_word_by.nd rfl (Or.inl rfl)) (fun _ _ _ _ _ => pts_nil) (fun _ _ _ _ _ => (pe_cd G__law_sign_by (hr.mono (by decide)) pass0 (pa_cons (pe_op op_add (pe_op op_fdiv (pv 0) pe_int) (pe_op op_mul (pv 2) (pe_op op_add pe_int (pe_op op_mod (pv 0) pe_int)))) pa_nil)))))))))), ?_⟩
    refine ⟨_, rfl, _, _, rfl, rfl, (show (0 : Int) < 7 by decide), _, _, rfl, rfl, ?_⟩
    refine ⟨fun σ H' => H' = H ∧ ∃ n : Int, σ = [some (.int c), some (.int n), none] ∧ 1 ≤ n ∧ n ≤ 300, ?_, ?_⟩
    · refine ⟨_, rfl, _, _, rfl, rfl, ⟨by decide, by decide⟩, _, _, rfl, rfl, (show (0 : Int) < 9 by decide), rfl, _, rfl, tst (c := c / 7 % 9 = 1) dec_vi (fun n1 => ?_) (fun n1 => ?_)⟩
      · refine ⟨_, rfl, _, _, rfl, rfl, ⟨by decide, by decide⟩, _, _, rfl, rfl, (show (0 : Int) < 40 by decide), _, _, rfl, rfl, rfl, 1 + c / 63 % 40, rfl, by omega, by omega⟩
      · exact ⟨rfl, 1 + c % 7, rfl, by omega, by omega⟩
    rintro σ H' ⟨rfl, n, rfl, h1, h2⟩
    refine ⟨fun σ H1 => H1 = H' ∧ ∃ n : Int, σ = [some (.int c), some (.int n), none] ∧ 1 ≤ n ∧ n ≤ 300, ?_, ?_⟩
    · refine ⟨_, rfl, _, _, rfl, rfl, ⟨by decide, by decide⟩, _, _, rfl, rfl, (show (0 : Int) < 81 by decide), rfl, _, rfl, tst (c := c / 7 % 81 = 2) dec_vi (fun n1 => ?_) (fun n1 => ?_)⟩
      · refine ⟨_, rfl, _, _, rfl, rfl, ⟨by decide, by decide⟩, _, _, rfl, rfl, (show (0 : Int) < 300 by decide), _, _, rfl, rfl, rfl, 1 + c / 567 % 300, rfl, by omega, by omega⟩
      · exact ⟨rfl, n, rfl, by omega, by omega⟩
    rintro σ H1 ⟨rfl, n, rfl, h1, h2⟩
    refine ⟨⟨_, rfl⟩, _, rfl, n, rfl, by omega, by omega, fun D hD => ?_⟩
    refine lc_range (lo := 0) (n := n.toNat) (fun i H' => Same H1 H' ∧ ∃ ws, H' D = some (.lst (vts ws)) ∧ ws.length = i ∧ ∀ x ∈ ws, x.length = 1 ∧ ∀ c ∈ x, 33 ≤ c ∧ c ≤ 126) ?_ ?_ ?_
    · exact ⟨(Same.refl _).new hD, [], upd_same, rfl, fun _ z => nomatch z⟩
    · rintro i H' hi ⟨s5, ws, eD, e1, e2⟩
      refine ⟨rfl, ?_⟩
      refine ⟨_, rfl, _, _, rfl, rfl, ⟨by decide, by decide⟩, _, rfl, _, rfl, _, _, rfl, rfl, (show (0 : Int) < 5 by decide), _, _, rfl, rfl, _, _, rfl, rfl, .inr ⟨by omega, by omega⟩, _, _, rfl, rfl, _, rfl, ?_⟩
      have hs := sign_in (c / 3 + (0 + (i : Int)) * (1 + c % 5))
      generalize sign (c / 3 + (0 + (i : Int)) * (1 + c % 5)) = x at hs ⊢
      refine ⟨_, eD, by rw [List.length_map]; exact szl (by omega), s5.put hD, ws ++ [[x]], by rw [upd_same, vts_app], by simp [e1], ?_⟩
      intro y hy
      rcases List.mem_append.mp hy with z | z
      · exact e2 y z
      · rw [List.mem_singleton.mp z]
        exact ⟨rfl, fun c hc => by rw [List.mem_singleton.mp hc]; exact hs⟩
    · rintro H' ⟨s5, ws, eD, e1, e2⟩
      have hw := wd_flatten (ws := ws) (by omega) (by omega) e2
      refine ⟨_, D, ws.map tx, rfl, rfl, .inl (.of (by rw [eD, List.map_map]; rfl)), ?_, ?_⟩
      · rw [lit_nil, tx_len, List.map_map]
        have t1 : (ws.map ((fun x : Str => x.length) ∘ tx)).sum = ws.flatten.length := by
          rw [List.length_flatten]
          exact congrArg List.sum (List.map_congr_left fun x _ => tx_len x)
        have := hw.le
        rw [show (fun x : Str => x.length) ∘ tx = (fun x => (tx x).length) from rfl] at t1
        simp only [List.length_nil, Nat.mul_zero]
        rw [show (Str.length ∘ tx) = (fun x => (tx x).length) from rfl]
        omega
      · rw [lit_nil, join_tx, jn_nil]
        exact q H' _ s5 hw

def sp__law_whole : Sp := fun vs H Q _ => ∃ n : Int, vs = [.int n] ∧ Q (.bl true) H
theorem ok__law_whole (A : At K mg "_law_whole" ["_law_found"] st__law_whole) (T : Bts mg) : Ok P w K mg base CX0 1 "_law_whole" ["_law_found"] sp__law_whole := by
  refine A.ok sc__law_whole (fun vs H Q E h => ?_) (fun f cdv A outer s H vs Q E hr h => ?_)
  · obtain ⟨n, rfl, _⟩ := h; rfl
  · obtain ⟨n, rfl, q⟩ := h
    refine ⟨_, (pss_one (ps_ret (pe_and (pe_callB call_isi (by rfl) T.m_isinstance (by decide +kernel) (pa_cons (pv 0) (pa_cons (pe_bltn (v := .ty "int") (u := .type "int") (by rfl) T.m_int (by decide +kernel) rfl) pa_nil))) (pe_one (pe_not (pe_callB call_isi (by rfl) T.m_isinstance (by decide +kernel) (pa_cons (pv 0) (pa_cons (pe_bltn (v := .ty "bool") (u := .type "bool") (by rfl) T.m_bool (by decide +kernel) rfl) pa_nil)))))))), ?_⟩
    refine ⟨_, rfl, _, .ty "int", _, _, true, rfl, .ty "int", .base (.int _), kit_ty (by decide +kernel), true, rfl, iteT ?_⟩
    exact ⟨_, rfl, _, .ty "bool", _, _, false, rfl, .ty "bool", .base (.int _), kit_ty (by decide +kernel), false, rfl, q⟩

def sp__law_wholes (K : PySem.W.Frag) : Sp := fun vs H Q _ => ∃ (a : Addr) (ns : List Int), vs = [.ref a] ∧ H a = some (.lst (vis ns)) ∧ Q (.bl true) H
theorem ok__law_wholes (A : At K mg "_law_wholes" ["_law_found"] st__law_wholes) (T : Bts mg) (G__law_whole : Ok P w K mg base CX0 1 "_law_whole" ["_law_found"] sp__law_whole) :
    Ok P w K mg base CX0 2 "_law_wholes" ["_law_found"] (sp__law_wholes K) := by
  refine A.ok sc__law_wholes (fun vs H Q E h => ?_) (fun f cdv A outer s H vs Q E hr h => ?_)
  · obtain ⟨a, ns, rfl, _⟩ := h; rfl
  · obtain ⟨a, ns, rfl, ha, q⟩ := h
    refine ⟨_, (pss_cons (ps_if (pt_not (pt_val (pe_callB call_isi (by rfl) T.m_isinstance (by decide +kernel) (pa_cons (pv 0) (pa_cons (pe_bltn (v := .ty "list") (u := .type "list") (by rfl) T.m_list (by decide +kernel) rfl) pa_nil))))) (pss_one (ps_ret pe_bl)) pss_nil)
      (pss_cons (ps_for PassesOwn.never rfl (pi_list (pv 0)) (pg_name (i := 1) sc__law_wholes.nd rfl (Or.inl rfl))
      (pss_one (ps_if (pt_not (pt_val (pe_cd G__law_whole (hr.mono (by decide)) pass0 (pa_cons (pv 1) pa_nil)))) (pss_one (ps_ret pe_bl)) pss_nil)))
      (pss_one (ps_ret pe_bl)))), ?_⟩
    refine ⟨_, rfl, .ref a, .ty "list", _, _, true, rfl, .ty "list", .base (.lst ha), kit_ty (by decide +kernel), true, rfl, iteF ?_⟩
    refine ⟨_, rfl, a, rfl, ⟨_, .of ha⟩, ?_⟩
    refine for_lst (f := V.int) (l := ns) (fun d r σ H3 => H3 = H ∧ ∃ y, σ = [some (.ref a), y]) ⟨rfl, none, rfl⟩ ?_ ?_ ?_
    · rintro d r σ H3 ⟨rfl, _⟩; exact .of ha
    · rintro d x r σ H3 e ⟨rfl, y, rfl⟩
      exact ⟨_, rfl, x, rfl, _, rfl, iteF ⟨rfl, _, rfl⟩⟩
    · rintro σ H3 ⟨rfl, y, rfl⟩
      exact q

def sp__law_longest (K : PySem.W.Frag) : Sp := fun vs H Q _ => ∃ (p : Addr) (ws : List (List Nat)), vs = [.ref p] ∧ SqL K H p (vts ws) ∧ Bw ws ∧ Q (.int (longest ws : Nat)) H
theorem ok__law_longest (A : At K mg "_law_longest" ["_law_row"] st__law_longest) (T : Bts mg) : Ok P w K mg base CX0 1 "_law_longest" ["_law_row"] (sp__law_longest K) := by
  refine A.ok sc__law_longest (fun vs H Q E h => ?_) (fun f cdv A outer s H vs Q E hr h => ?_)
  · obtain ⟨p, ws, rfl, _⟩ := h; rfl
  · obtain ⟨p, ws, rfl, hS, hw, q⟩ := h
    refine ⟨_, (pss_cons (ps_set (i := 1) sc__law_longest.nd rfl (Or.inl rfl) pe_int)
      (pss_cons (ps_for PassesOwn.never rfl (pi_list (pv 0)) (pg_name (i := 2) sc__law_longest.nd rfl (Or.inl rfl))
      (pss_one (ps_set (i := 1) sc__law_longest.nd rfl (Or.inl rfl) (pe_callB (call_max2 rfl) (by rfl) T.m_max (by decide +kernel) (pa_cons (pv 1) (pa_cons (pe_callB call_len_str (by rfl) T.m_len PySem.boot_len (pa_cons (pv 2) pa_nil)) pa_nil))))))
      (pss_one (ps_ret (pv 1))))), ?_⟩
    refine ⟨_, rfl, p, rfl, ⟨_, hS⟩, ?_⟩
    refine for_lst (f := vt) (l := ws) (fun d r σ H3 => H3 = H ∧ ∃ y, σ = [some (.ref p), some (.int (longest d : Nat)), y]) ⟨rfl, none, rfl⟩ ?_ ?_ ?_
    · rintro d r σ H3 ⟨rfl, _⟩; exact hS
    · rintro d x r σ H3 e ⟨rfl, y, rfl⟩
      have hx : x ∈ ws := by rw [e]; simp
      refine ⟨_, rfl, _, rfl, tx x, rfl, by rw [tx_len]; exact sz (by have := hw.wl hx; omega), _, _, rfl, rfl, some (vt x), ?_⟩
      rw [longest_app, tx_len]
      have e9 : (if ((x.length : Nat) : Int) > (longest d : Nat) then ((x.length : Nat) : Int) else (longest d : Nat)) = ((max (longest d) x.length : Nat) : Int) := by
        split <;> omega
      exact congrArg (fun z => [some (V.ref p), some (V.int z), some (vt x)]) e9
    · rintro σ H3 ⟨rfl, y, rfl⟩
      exact ⟨_, rfl, q⟩

def sp__law_size (K : PySem.W.Frag) : Sp := fun vs H Q _ => ∃ (p : Addr) (ws : List (List Nat)) (a b : Nat), vs = [.ref p, .int a, .int b] ∧ SqL K H p (vts ws) ∧ Bw ws ∧
  ∀ H', Same H H' → Q (.int (size ws a b : Nat)) H'
theorem ok__law_size (A : At K mg "_law_size" ["_law_row", "_law_begin", "_law_end"] st__law_size) (T : Bts mg) : Ok P w K mg base CX0 1 "_law_size" ["_law_row", "_law_begin", "_law_end"] (sp__law_size K) := by
  refine A.ok sc__law_size (fun vs H Q E h => ?_) (fun f cdv A outer s H vs Q E hr h => ?_)
  · obtain ⟨p, ws, a, b, rfl, _⟩ := h; rfl
  · obtain ⟨p, ws, a, b, rfl, hS, hw, q⟩ := h
    refine ⟨_, (pss_one (ps_ret (pe_callB call_len_str (by rfl) T.m_len PySem.boot_len (pa_cons (pe_joinK K pe_str (pe_slice (sl_listK K) (pv 0) (po_some (pv 1)) (po_some (pv 2)))) pa_nil)))), ?_⟩
    refine ⟨⟨_, rfl⟩, _, rfl, _, rfl, a, rfl, _, rfl, b, rfl, p, _, rfl, hS, fun c nc => ?_⟩
    have ec : cutV (vts ws) (some (a : Int)) (some (b : Int)) = vts (seg ws a b) := cut_ft vt ws a b
    have hb := hw.size a b
    have t1 := total_seg ws a b
    have t2 := seg_le ws a b
    have t3 := hw.tot
    have t4 := hw.le
    refine ⟨_, c, (seg ws a b).map tx, rfl, rfl, .inl (.of (by rw [upd_same, ec, map_vt])), ?_, ?_⟩
    · rw [sum_tx, lit_sp, tx_len, List.length_map]
      simp only [List.length_cons, List.length_nil]
      omega
    · rw [lit_sp, join_tx]
      refine ⟨_, rfl, by rw [tx_len, jn_sp]; exact sz (by unfold size at hb; omega), ?_⟩
      rw [tx_len, jn_sp]
      exact q _ ((Same.refl H).new nc)

def sp__law_alike_by : Sp := fun vs H Q _ => ∃ n m : Int, vs = [.int n, .int m] ∧ 1 ≤ m ∧ m ≤ 300 ∧ ∀ w, Wd w → Q (vt w) H
theorem ok__law_alike_by (A : At K mg "_law_alike_by" ["_law_cell", "_law_size_here"] st__law_alike_by) (T : Bts mg) (G__law_sign_by : Ok P w K mg base CX0 1 "_law_sign_by" ["_law_cell"] sp__law_sign_by) :
    Ok P w K mg base CX0 2 "_law_alike_by" ["_law_cell", "_law_size_here"] sp__law_alike_by := by
  refine A.ok sc__law_alike_by (fun vs H Q E h => ?_) (fun f cdv A outer s H vs Q E hr h => ?_)
  · obtain ⟨n, m, rfl, _⟩ := h; rfl
  · obtain ⟨c, m, rfl, h1, h2, q⟩ := h
    have lit_a : PySem.Str.ofString "a" = tx [97] := by decide +kernel
    refine ⟨_, (pss_cons (ps_set (i := 2) sc__law_alike_by.nd rfl (Or.inl rfl) (pe_op op_mod (pe_op op_fdiv (pv 0) pe_int) (pv 1)))
      (pss_one (ps_ret (pe_op op_add_str (pe_op op_add_str (pe_op op_mulS pe_str (pv 2)) (pe_cd G__law_sign_by (hr.mono (by decide)) pass0 (pa_cons (pv 0) pa_nil))) (pe_op op_mulS pe_str (pe_op op_sub (pe_op op_sub (pv 1) pe_int) (pv 2))))))), ?_⟩
    refine ⟨_, rfl, _, _, rfl, rfl, ⟨by decide, by decide⟩, _, rfl, _, _, rfl, rfl, (show 0 < m by omega), ?_⟩
    have b1 : 0 ≤ c / 93 % m := Int.emod_nonneg _ (by omega)
    have b2 : c / 93 % m < m := Int.emod_lt_of_pos _ (by omega)
    generalize hat : c / 93 % m = at0 at b1 b2
    refine ⟨_, rfl, [97], at0, by rw [lit_a], by rw [← hat], by omega, by omega, sz (by simp <;> omega), _, rfl, _, rfl, _, _, rfl, rfl, ?_, ?_⟩
    · rw [tx_len, tx_len, rep_sign, List.length_replicate]; exact sz (by simp <;> omega)
    · refine ⟨_, rfl, _, _, rfl, rfl, _, rfl, _, _, rfl, rfl, [97], m - 1 - at0, by rw [lit_a], by rw [← hat], by omega, by omega, sz (by simp <;> omega), _, _, rfl, rfl, ?_, ?_⟩
      · rw [tx_app, tx_len, tx_len, rep_sign, rep_sign, List.length_append, List.length_replicate, List.length_replicate]; exact sz (by simp only [List.length_cons, List.length_nil]; omega)
      · rw [tx_app, tx_app]
        have hs := sign_in c
        refine q _ ⟨?_, ?_, fun x hx => ?_⟩
        · simp
        · rw [rep_sign, rep_sign]; simp; omega
        · rw [rep_sign, rep_sign] at hx
          rcases List.mem_append.mp hx with z | z
          · rcases List.mem_append.mp z with z | z
            · rw [List.eq_of_mem_replicate z]; omega
            · rw [List.mem_singleton.mp z]; exact hs
          · rw [List.eq_of_mem_replicate z]; omega

def sp__law_wide_by : Sp := fun vs H Q _ => ∃ n k : Int, vs = [.int n, .int k] ∧ 0 ≤ k ∧ k ≤ 100000 ∧ ∀ i : Int, 1 ≤ i → i ≤ 8 → Q (.int i) H
theorem ok__law_wide_by (A : At K mg "_law_wide_by" ["_law_more", "_law_k"] st__law_wide_by) (T : Bts mg) : Ok P w K mg base CX0 1 "_law_wide_by" ["_law_more", "_law_k"] sp__law_wide_by := by
  refine A.ok sc__law_wide_by (fun vs H Q E h => ?_) (fun f cdv A outer s H vs Q E hr h => ?_)
  · obtain ⟨n, m, rfl, _⟩ := h; rfl
  · obtain ⟨n, k, rfl, h1, h2, q⟩ := h
    refine ⟨_, (pss_one (ps_ret (pe_op op_add (pe_op op_add pe_int (pe_op op_mod (pe_op op_add (pv 0) (pe_op op_mul (pv 1) (pv 1))) pe_int)) (pe_op op_mul pe_int (pe_callTy call_int1 (by rfl) T.m_int (by decide +kernel) (pa_cons (pe_cmpR op_eq (pe_op op_mod (pv 1) pe_int) (pe_op op_mod (pv 0) pe_int) (nomark _)) pa_nil)))))), ?_⟩
    refine ⟨_, rfl, _, rfl, _, rfl, _, _, rfl, rfl, .inl ⟨by omega, by omega⟩, _, _, rfl, rfl, _, _, rfl, rfl, (show (0 : Int) < 3 by decide), _, _, rfl, rfl, ?_⟩
    refine ⟨_, rfl, _, _, rfl, rfl, (show (0 : Int) < 7 by decide), _, rfl, _, _, rfl, rfl, (show (0 : Int) < 7 by decide), rfl, .inr ⟨_, rfl, _, _, rfl, rfl, .inl ⟨by decide, by decide⟩, _, _, rfl, rfl, ?_⟩⟩
    have h3 : 0 ≤ (n + k * k) % 3 ∧ (n + k * k) % 3 < 3 := ⟨Int.emod_nonneg _ (by decide), Int.emod_lt_of_pos _ (by decide)⟩
    generalize (n + k * k) % 3 = z at h3 ⊢
    cases decide (V.int (k % 7) = V.int (n % 7)) with
    | true => exact q _ (show 1 ≤ 1 + z + 5 * 1 by omega) (show 1 + z + 5 * 1 ≤ 8 by omega)
    | false => exact q _ (show 1 ≤ 1 + z + 5 * 0 by omega) (show 1 + z + 5 * 0 ≤ 8 by omega)

def sp__law_words_by (K : PySem.W.Frag) : Sp := fun vs H Q _ => ∃ (a : Addr) (ns : List Int) (m : Int), vs = [.ref a, .int m] ∧ SqL K H a (vis ns) ∧ ns.length ≤ 63 ∧
  ∀ H' p ws, Same H H' → H p = none → H' p = some (.lst (vts ws)) → Wds ws → Q (.ref p) H'
theorem ok__law_words_by (A : At K mg "_law_words_by" ["_law_cells", "_law_more"] st__law_words_by) (T : Bts mg) (G__law_sign_by : Ok P w K mg base CX0 1 "_law_sign_by" ["_law_cell"] sp__law_sign_by)
    (G__law_word_by : Ok P w K mg base CX0 2 "_law_word_by" ["_law_cell"] sp__law_word_by) (G__law_alike_by : Ok P w K mg base CX0 2 "_law_alike_by" ["_law_cell", "_law_size_here"] sp__law_alike_by)
    (G__law_wide_by : Ok P w K mg base CX0 1 "_law_wide_by" ["_law_more", "_law_k"] sp__law_wide_by) :
    Ok P w K mg base CX0 3 "_law_words_by" ["_law_cells", "_law_more"] (sp__law_words_by K) := by
  refine A.ok sc__law_words_by (fun vs H Q E h => ?_) (fun f cdv A outer s H vs Q E hr h => ?_)
  · obtain ⟨a, ns, m, rfl, _⟩ := h; rfl
  · obtain ⟨a, ns, m, rfl, hS, hl, q⟩ := h
    refine ⟨_, (pss_cons (ps_setLc (i := 2) (own := [("_law_cell", 4)]) (g := gName 4) (tt := tYes) rfl sc__law_words_by.nd rfl rfl (sw_true rfl rfl rfl (by decide +kernel)) (pi_list (pv 0)) (blkOk_by (own := [("_law_cell", 4)]) (N := N__law_words_by) (sc := defScope st__law_words_by) (by decide +kernel)) (fun _ _ _ _ _ => pg_name (i := 4) sc__law_words_by.nd rfl (Or.inl rfl)) (fun _ _ _ _ _ => pts_nil) (fun _ _ _ _ _ => (pe_cd G__law_word_by (hr.mono (by decide)) pass0 (pa_cons (pv 4) pa_nil))))
      (C8.pss_cut (ps_if (pt_cmpR op_eq (pe_op op_mod (pv 1) pe_int) pe_int (nomark _)) (pss_one (ps_set (i := 2) sc__law_words_by.nd rfl (Or.inl rfl) (pe_slice (sl_listK K) (pe_op op_rep (pv 2) pe_int) po_none (po_some (pe_op op_mod (pe_op op_fdiv (pv 1) pe_int) pe_int))))) pss_nil)
      (C8.pss_cut (ps_if (pt_cmpR op_eq (pe_op op_mod (pv 1) pe_int) pe_int (nomark _)) (pss_one (ps_setLc (i := 2) (own := [("_law_cell", 4)]) (g := gName 4) (tt := tYes) rfl sc__law_words_by.nd rfl rfl (sw_true rfl rfl rfl (by decide +kernel)) (pi_list (pv 0)) (blkOk_by (own := [("_law_cell", 4)]) (N := N__law_words_by) (sc := defScope st__law_words_by) (by decide +kernel)) (fun _ _ _ _ _ => pg_name (i := 4) sc__law_words_by.nd rfl (Or.inl rfl)) (fun _ _ _ _ _ => pts_nil) (fun _ _ _ _ _ => (pe_cd G__law_alike_by (hr.mono (by decide)) pass0 (pa_cons (pv 4) (pa_cons (pe_op op_add pe_int (pe_op op_mod (pe_op op_fdiv (pv 1) pe_int) pe_int)) pa_nil)))))) pss_nil)
      (C8.pss_cut (ps_if (pt_cmpR op_eq (pe_op op_mod (pv 1) pe_int) pe_int (nomark _)) (pss_cons (ps_set (i := 3) sc__law_words_by.nd rfl (Or.inl rfl) (pe_op op_mod (pe_op op_mod (pe_op op_mul (pv 1) pe_int) pe_int) (pe_ix (ix_listK K) (pe_lst (pa_cons pe_int (pa_cons pe_int (pa_cons pe_int (pa_cons pe_int pa_nil))))) (pe_op op_mod (pe_op op_fdiv (pv 1) pe_int) pe_int) (fun _ _ => rfl))))
      (pss_one (ps_setLc (i := 2) (own := [("_law_k", 5)]) (g := gName 5) (tt := tYes) rfl sc__law_words_by.nd rfl rfl (sw_true rfl rfl rfl (by decide +kernel)) (pi_range1 (by rfl) T.m_range (pa_cons (pv 3) pa_nil)) (blkOk_by (own := [("_law_k", 5)]) (N := N__law_words_by) (sc := defScope st__law_words_by) (by decide +kernel)) (fun _ _ _ _ _ => pg_name (i := 5) sc__law_words_by.nd rfl (Or.inl rfl)) (fun _ _ _ _ _ => pts_nil) (fun _ _ _ _ _ => (pe_op op_mulS (pe_cd G__law_sign_by (hr.mono (by decide)) pass0 (pa_cons (pe_op op_add (pv 1) (pv 5)) pa_nil)) (pe_cd G__law_wide_by (hr.mono (by decide)) pass0 (pa_cons (pv 1) (pa_cons (pv 5) pa_nil)))))))) pss_nil)
      (pss_one (ps_ret (pv 2))))))), ?_⟩
    refine ⟨_, rfl, a, rfl, ⟨_, hS⟩, fun D hD => ?_⟩
    refine lc_list (xs := vis ns) (fun i H' => Same H H' ∧ ∃ ws, H' D = some (.lst (vts ws)) ∧ ws.length = i ∧ ∀ x ∈ ws, Wd x) ?_ ?_ ?_ ?_
    · exact ⟨(Same.refl H).new hD, [], upd_same, rfl, fun _ z => nomatch z⟩
    · rintro i H' _ ⟨s1, _⟩; exact s1.seq hS
    · rintro i x H' hx ⟨s1, ws, eD, e1, e2⟩
      have hi : i < ns.length := by have := (List.getElem?_eq_some_iff.mp hx).1; simpa using this
      rw [flat_get (List.getElem?_eq_getElem hi)] at hx
      cases hx
      refine ⟨rfl, ?_⟩
      refine ⟨_, rfl, _, rfl, fun H2 w s2 hw => ⟨_, s2 _ _ eD, by rw [List.length_map]; exact szl (by omega), (s1.trans s2).put hD, ws ++ [w], by rw [upd_same, vts_app], by simp [e1], ?_⟩⟩
      intro y hy
      rcases List.mem_append.mp hy with z | z
      · exact e2 y z
      · rw [List.mem_singleton.mp z]; exact hw
    rintro H1 ⟨s1, ws, eD, e1, e2⟩
    rw [List.length_map] at e1
    -- times six
    refine ⟨fun σ H' => ∃ D ws z, σ = [some (.ref a), some (.int m), some (.ref D), z, none, none] ∧ Same H H' ∧ H D = none ∧ H' D = some (.lst (vts ws)) ∧ Wds ws, ?_, ?_⟩
    · refine ⟨_, rfl, _, _, rfl, rfl, (show (0 : Int) < 4 by decide), rfl, _, rfl, tst (c := m % 4 = 1) dec_vi (fun n1 => ?_) (fun n1 => ?_)⟩
      · refine ⟨_, rfl, _, _, _, rfl, rfl, eD, by decide, by decide, sz (by rw [List.length_map, e1]; simp; omega), fun p np => ?_⟩
        refine ⟨_, rfl, _, _, rfl, rfl, ⟨by decide, by decide⟩, _, _, rfl, rfl, (show (0 : Int) < 150 by decide), m / 4 % 150, rfl, ?_⟩
        have e6 : (List.replicate (6 : Int).toNat (vts ws)).flatten = vts (List.replicate 6 ws).flatten := by
          simp only [vts, List.map_flatten, List.map_replicate]; rfl
        rw [e6]
        refine ⟨p, _, rfl, .of upd_same, fun p2 np2 => ?_⟩
        have s2 := s1.new (o := HO.lst (vts (List.replicate 6 ws).flatten)) np
        obtain ⟨j, hj⟩ : ∃ j : Nat, m / 4 % 150 = (j : Int) := ⟨(m / 4 % 150).toNat, by omega⟩
        have ec : cutV (vts (List.replicate 6 ws).flatten) none (some (m / 4 % 150)) = vts ((List.replicate 6 ws).flatten.take j) := by
          rw [hj]; exact cut_to vt _ j
        refine ⟨p2, (List.replicate 6 ws).flatten.take j, none, rfl, s2.new np2, s2.free np2, by rw [upd_same, ec], ?_, fun x hx => ?_⟩
        · rw [List.length_take]; omega
        · obtain ⟨y, hy, hx⟩ := List.mem_flatten.mp (List.mem_of_mem_take hx)
          rw [(List.mem_replicate.mp hy).2] at hx
          exact e2 x hx
      · exact ⟨D, ws, none, rfl, s1, hD, eD, by omega, e2⟩
    rintro σ H2 ⟨D, ws, z, rfl, s2, hD, eD, hw⟩
    -- alike
    refine ⟨fun σ H' => ∃ D ws z, σ = [some (.ref a), some (.int m), some (.ref D), z, none, none] ∧ Same H H' ∧ H D = none ∧ H' D = some (.lst (vts ws)) ∧ Wds ws, ?_, ?_⟩
    · refine ⟨_, rfl, _, _, rfl, rfl, (show (0 : Int) < 4 by decide), rfl, _, rfl, tst (c := m % 4 = 2) dec_vi (fun n1 => ?_) (fun n1 => ?_)⟩
      · have hS2 := s2.seq hS
        refine ⟨_, rfl, a, rfl, ⟨_, hS2⟩, fun D hD => ?_⟩
        refine lc_list (xs := vis ns) (fun i H' => Same H2 H' ∧ ∃ ws, H' D = some (.lst (vts ws)) ∧ ws.length = i ∧ ∀ x ∈ ws, Wd x) ?_ ?_ ?_ ?_
        · exact ⟨(Same.refl _).new hD, [], upd_same, rfl, fun _ z => nomatch z⟩
        · rintro i H' _ ⟨s1, _⟩; exact s1.seq hS2
        · rintro i x H' hx ⟨s1, ws, eD, e1, e2⟩
          have hi : i < ns.length := by have := (List.getElem?_eq_some_iff.mp hx).1; simpa using this
          rw [flat_get (List.getElem?_eq_getElem hi)] at hx
          cases hx
          refine ⟨rfl, ?_⟩
          refine ⟨_, rfl, _, rfl, _, _, rfl, rfl, ⟨by decide, by decide⟩, _, _, rfl, rfl, (show (0 : Int) < 4 by decide), _, _, rfl, rfl, ns[i], 1 + m / 4 % 4, rfl, by omega, by omega, fun w hw => ?_⟩
          refine ⟨_, eD, by rw [List.length_map]; exact szl (by omega), s1.put hD, ws ++ [w], by rw [upd_same, vts_app], by simp [e1], ?_⟩
          intro y hy
          rcases List.mem_append.mp hy with z | z
          · exact e2 y z
          · rw [List.mem_singleton.mp z]; exact hw
        · rintro H3 ⟨s3, ws, eD, e1, e2⟩
          rw [List.length_map] at e1
          exact ⟨D, ws, z, rfl, s2.trans s3, s2.free hD, eD, by omega, e2⟩
      · exact ⟨D, ws, z, rfl, s2, hD, eD, hw⟩
    rintro σ H3 ⟨D, ws, z, rfl, s3, hD, eD, hw⟩
    -- many
    refine ⟨fun σ H' => ∃ D ws z, σ = [some (.ref a), some (.int m), some (.ref D), z, none, none] ∧ Same H H' ∧ H D = none ∧ H' D = some (.lst (vts ws)) ∧ Wds ws, ?_, ?_⟩
    · refine ⟨_, rfl, _, _, rfl, rfl, (show (0 : Int) < 12 by decide), rfl, _, rfl, tst (c := m % 12 = 3) dec_vi (fun n1 => ?_) (fun n1 => ?_)⟩
      · refine ⟨_, rfl, _, _, rfl, rfl, .inr ⟨by decide, by decide⟩, _, _, rfl, rfl, (show (0 : Int) < 9973 by decide), sz (by simp), fun p np => ?_⟩
        obtain ⟨j, hj⟩ : ∃ j : Nat, m / 12 % 4 = (j : Int) := ⟨(m / 12 % 4).toNat, by omega⟩
        have hj4 : j < 4 := by omega
        have hv : ∃ v : Int, ([V.int 450, V.int 450, V.int 450, V.int 1600])[j]? = some (.int v) ∧ 0 < v ∧ v ≤ 1600 := by
          match j, hj4 with
          | 0, _ => exact ⟨450, rfl, by decide, by decide⟩
          | 1, _ => exact ⟨450, rfl, by decide, by decide⟩
          | 2, _ => exact ⟨450, rfl, by decide, by decide⟩
          | 3, _ => exact ⟨1600, rfl, by decide, by decide⟩
        obtain ⟨v, hv, v0, v1⟩ := hv
        refine ⟨_, rfl, _, _, rfl, rfl, ⟨by decide, by decide⟩, _, _, rfl, rfl, (show (0 : Int) < 4 by decide), p, _, _, _, rfl, rfl, .of upd_same, at_of hj hv, _, _, rfl, rfl, v0, ?_⟩
        have b1 : 0 ≤ m * 48271 % 9973 % v := Int.emod_nonneg _ (by omega)
        have b2 : m * 48271 % 9973 % v < v := Int.emod_lt_of_pos _ (by omega)
        obtain ⟨n, hn⟩ : ∃ n : Int, m * 48271 % 9973 % v = n := ⟨_, rfl⟩
        rw [hn] at b1 b2
        have s4 := s3.new (o := HO.lst [V.int 450, V.int 450, V.int 450, V.int 1600]) np
        generalize upd H3 p (HO.lst [V.int 450, V.int 450, V.int 450, V.int 1600]) = H4 at s4 ⊢
        refine ⟨_, rfl, n, by rw [← hn], by omega, by omega, fun D hD => ?_⟩
        refine lc_range (lo := 0) (n := n.toNat) (fun i H' => Same H4 H' ∧ ∃ ws, H' D = some (.lst (vts ws)) ∧ ws.length = i ∧ ∀ x ∈ ws, Wd x) ?_ ?_ ?_
        · exact ⟨(Same.refl _).new hD, [], upd_same, rfl, fun _ z => nomatch z⟩
        · rintro i H' hi ⟨s5, ws, eD, e1, e2⟩
          refine ⟨rfl, ?_⟩
          refine ⟨_, rfl, _, rfl, _, _, rfl, rfl, _, rfl, ?_⟩
          have hs := sign_in (m + (0 + (i : Int)))
          refine ⟨_, rfl, _, rfl, m, 0 + (i : Int), rfl, by omega, by omega, fun y y1 y2 => ?_⟩
          generalize sign (m + (0 + (i : Int))) = x at hs ⊢
          refine ⟨[x], y, rfl, rfl, by omega, by omega, sz (by simp; omega), ?_⟩
          rw [rep_sign]
          refine ⟨_, eD, by rw [List.length_map]; exact szl (by omega), s5.put hD, ws ++ [List.replicate y.toNat x], by rw [upd_same, vts_app], by simp [e1], ?_⟩
          intro t ht
          rcases List.mem_append.mp ht with z | z
          · exact e2 t z
          · rw [List.mem_singleton.mp z]
            refine ⟨fun e => ?_, by rw [List.length_replicate]; omega, fun c hc => by rw [List.eq_of_mem_replicate hc]; exact hs⟩
            have := congrArg List.length e
            rw [List.length_replicate] at this
            simp at this
            omega
        · rintro H5 ⟨s5, ws, eD, e1, e2⟩
          exact ⟨D, ws, some (.int n), by rw [← hn]; rfl, s4.trans s5, s4.free hD, eD, by omega, e2⟩
      · exact ⟨D, ws, z, rfl, s3, hD, eD, hw⟩
    rintro σ H4 ⟨D, ws, z, rfl, s4, hD, eD, hw⟩
    exact ⟨_, rfl, q H4 D ws s4 hD eD hw⟩

def sp__law_width_by (K : PySem.W.Frag) : Sp := fun vs H Q _ => ∃ (c : Int) (p : Addr) (ws : List (List Nat)), vs = [.int c, .ref p] ∧ SqL K H p (vts ws) ∧ Bw ws ∧ longest ws ≤ 1000000 ∧
  ∀ H' n, Same H H' → Wb n → Q (.int n) H'
theorem ok__law_width_by (A : At K mg "_law_width_by" ["_law_cell", "_law_row"] st__law_width_by) (T : Bts mg) (G__law_longest : Ok P w K mg base CX0 1 "_law_longest" ["_law_row"] (sp__law_longest K)) :
    Ok P w K mg base CX0 2 "_law_width_by" ["_law_cell", "_law_row"] (sp__law_width_by K) := by
  refine A.ok sc__law_width_by (fun vs H Q E h => ?_) (fun f cdv A outer s H vs Q E hr h => ?_)
  · obtain ⟨c, p, ws, rfl, _⟩ := h; rfl
  · obtain ⟨c, p, ws, rfl, hS, hw, hM, q⟩ := h
    refine ⟨_, (pss_cons (ps_if (pt_cmpR op_eq (pe_op op_mod (pe_op op_fdiv (pv 0) pe_int) pe_int) pe_int (nomark _)) (pss_one (ps_ret (pe_op op_mul (pe_un un_neg (pe_op op_mod (pv 0) pe_int)) (pe_op op_add pe_int (pe_op op_mod (pe_op op_fdiv (pv 0) pe_int) (pe_op op_powW pe_int pe_int)))))) pss_nil)
      (pss_cons (ps_if (pt_cmpR op_eq (pe_op op_mod (pe_op op_fdiv (pv 0) pe_int) pe_int) pe_int (nomark _)) (pss_one (ps_ret (pe_op op_add pe_int (pe_op op_mod (pe_op op_fdiv (pv 0) pe_int) (pe_callB (call_max2 rfl) (by rfl) T.m_max (by decide +kernel) (pa_cons pe_int (pa_cons (pe_cd G__law_longest (hr.mono (by decide)) pass0 (pa_cons (pv 1) pa_nil)) pa_nil))))))) pss_nil)
      (pss_cons (ps_if (PW.pt (pw_and (pt_cmpR op_eq (pe_op op_mod (pe_op op_fdiv (pv 0) pe_int) pe_int) pe_int (nomark _)) (pw_and1 (pt_cmpR op_lt (pe_callB (call_lenK K) (by rfl) T.m_len PySem.boot_len (pa_cons (pv 1) pa_nil)) pe_int (nomark _))))) (pss_one (ps_ret (pe_op op_add (pe_callB (call_max2 rfl) (by rfl) T.m_max (by decide +kernel) (pa_cons pe_int (pa_cons (pe_cd G__law_longest (hr.mono (by decide)) pass0 (pa_cons (pv 1) pa_nil)) pa_nil))) (pe_ix (ix_listK K) (pe_lst (pa_cons (pe_op op_mod (pe_op op_fdiv (pv 0) pe_int) pe_int) (pa_cons (pe_op op_powW pe_int pe_int) pa_nil))) (pe_op op_fdiv (pe_op op_mod (pv 0) pe_int) pe_int) (fun _ _ => rfl))))) pss_nil)
      (pss_cons (ps_set (i := 2) sc__law_width_by.nd rfl (Or.inl rfl) (pe_op op_sub (pe_op op_add pe_int (pe_op op_mul pe_int (pe_callTy call_int1 (by rfl) T.m_int (by decide +kernel) (pa_cons (pe_cmpR op_gt (pe_callB (call_lenK K) (by rfl) T.m_len PySem.boot_len (pa_cons (pv 1) pa_nil)) pe_int (nomark _)) pa_nil)))) (pe_op op_mul pe_int (pe_callTy call_int1 (by rfl) T.m_int (by decide +kernel) (pa_cons (pe_cmpR op_gt (pe_callB (call_lenK K) (by rfl) T.m_len PySem.boot_len (pa_cons (pv 1) pa_nil)) pe_int (nomark _)) pa_nil)))))
      (pss_one (ps_ret (pe_callB (call_max2 rfl) (by rfl) T.m_max (by decide +kernel) (pa_cons pe_int (pa_cons (pe_op op_sub (pe_op op_add (pe_cd G__law_longest (hr.mono (by decide)) pass0 (pa_cons (pv 1) pa_nil)) (pe_op op_mod (pv 0) (pv 2))) (pe_op op_mul pe_int (pe_callTy call_int1 (by rfl) T.m_int (by decide +kernel) (pa_cons (pe_cmpR op_eq (pe_op op_mod (pe_op op_fdiv (pv 0) pe_int) pe_int) pe_int (nomark _)) pa_nil)))) pa_nil))))))))), ?_⟩
    have h9 : (10 : Int) ^ (9 : Int).toNat = 1000000000 := by decide
    have h30 : (10 : Int) ^ (30 : Int).toNat = 10 ^ 30 := by decide
    obtain ⟨M, hMM⟩ : ∃ M, longest ws = M := ⟨_, rfl⟩
    have hmx : (if ((M : Nat) : Int) > 1 then ((M : Nat) : Int) else 1) = ((max M 1 : Nat) : Int) := by split <;> omega
    refine ⟨_, rfl, _, _, rfl, rfl, ⟨by decide, by decide⟩, _, _, rfl, rfl, (show (0 : Int) < 9 by decide), rfl, _, rfl, tst (c := c / 115 % 9 = 1) dec_vi (fun n1 => ?_) (fun n1 => ?_)⟩
    · refine ⟨_, rfl, _, _, rfl, rfl, (show (0 : Int) < 3 by decide), _, rfl, _, rfl, _, _, rfl, rfl, ⟨by decide, by decide⟩, _, _, rfl, rfl, by decide, by decide +kernel, _, _, rfl, rfl, ?_, _, _, rfl, rfl, _, _, rfl, rfl, .inl ⟨by omega, by omega⟩, q _ _ (Same.refl H) ?_⟩
      · show (0 : Int) < 10 ^ 9
        decide
      rw [h9]
      have h1 : 0 ≤ c / 1035 % 1000000000 ∧ c / 1035 % 1000000000 < 1000000000 := by omega
      generalize c / 1035 % 1000000000 = u at h1 ⊢
      rcases (show c % 3 = 0 ∨ c % 3 = 1 ∨ c % 3 = 2 by omega) with e | e | e <;> rw [e] <;> unfold Wb <;> omega
    refine ⟨_, rfl, _, _, rfl, rfl, ⟨by decide, by decide⟩, _, _, rfl, rfl, (show (0 : Int) < 9 by decide), rfl, _, rfl, tst (c := c / 115 % 9 = 3) dec_vi (fun n1 => ?_) (fun n1 => ?_)⟩
    · refine ⟨_, rfl, _, _, rfl, rfl, ⟨by decide, by decide⟩, _, rfl, p, ws, rfl, hS, hw, _, _, rfl, ?_⟩
      rw [hMM, hmx]
      refine ⟨_, _, rfl, rfl, (show (0 : Int) < (max M 1 : Nat) by omega), _, _, rfl, rfl, q _ _ (Same.refl H) ?_⟩
      have h1 := Int.emod_nonneg (c / 1035) (b := ((max M 1 : Nat) : Int)) (by omega)
      have h2 := Int.emod_lt_of_pos (c / 1035) (b := ((max M 1 : Nat) : Int)) (by omega)
      exact Wb.sm (by omega) (by omega)
    dsimp only [tNext, tSeq, tIfS]
    refine ans_and2 (b1 := decide (c / 115 % 9 = 2)) (b2 := decide (ws.length < 150)) (fun Q2 k2 => ⟨_, rfl, _, _, rfl, rfl, ⟨by decide, by decide⟩, _, _, rfl, rfl, (show (0 : Int) < 9 by decide), rfl, _, rfl, by rw [dec_vi]; exact k2⟩)
      (fun Q2 k2 => ⟨_, rfl, p, _, rfl, .inl hS, _, _, rfl, rfl, _, rfl, by
        have e : decide ((((vts ws).length : Nat) : Int) < 150) = decide (ws.length < 150) := by rw [List.length_map]; simp only [decide_eq_decide]; omega
        rw [e]; exact k2⟩) _ ?_
    by_cases n2 : c / 115 % 9 = 2 ∧ ws.length < 150
    · rw [decide_eq_true n2.1, decide_eq_true n2.2]
      refine iteT ?_
      refine ⟨_, rfl, p, ws, rfl, hS, hw, _, _, rfl, ?_⟩
      rw [hMM, hmx]
      refine ⟨_, rfl, _, _, rfl, rfl, ⟨by decide, by decide⟩, _, _, rfl, rfl, (show (0 : Int) < 300 by decide), _, _, rfl, rfl, by decide, by decide +kernel, sz (by simp), fun l nl => ?_⟩
      obtain ⟨j, hj⟩ : ∃ j : Nat, c % 5 / 4 = (j : Int) := ⟨(c % 5 / 4).toNat, by omega⟩
      have hv : ∃ v : Int, ([V.int (c / 1035 % 300), V.int (10 ^ (30 : Int).toNat)])[j]? = some (.int v) ∧ 0 ≤ v ∧ v ≤ 10 ^ 30 := by
        rcases (show j = 0 ∨ j = 1 by omega) with z | z <;> subst z
        · exact ⟨_, rfl, by omega, by omega⟩
        · exact ⟨_, rfl, by rw [h30]; decide, by rw [h30]; exact Int.le_refl _⟩
      obtain ⟨v, hv, v1, v2⟩ := hv
      exact ⟨_, rfl, _, _, rfl, rfl, (show (0 : Int) < 5 by decide), _, _, rfl, rfl, ⟨by decide, by decide⟩, l, _, _, _, rfl, rfl, .of upd_same, at_of hj hv, _, _, rfl, rfl, q _ _ ((Same.refl H).new nl) (Wb.sm (by omega) (by omega))⟩
    · have e : (decide (c / 115 % 9 = 2) && decide (ws.length < 150)) = false := by
        rw [Bool.and_eq_false_iff, decide_eq_false_iff_not, decide_eq_false_iff_not]
        by_cases h : c / 115 % 9 = 2
        · exact .inr fun z => n2 ⟨h, z⟩
        · exact .inl h
      rw [e]
      refine iteF ?_
      obtain ⟨r1, hr1⟩ : ∃ r : Int, (if decide (((vts ws).length : Int) > 149) = true then (1 : Int) else 0) = r := ⟨_, rfl⟩
      obtain ⟨r2, hr2⟩ : ∃ r : Int, (if decide (((vts ws).length : Int) > 500) = true then (1 : Int) else 0) = r := ⟨_, rfl⟩
      obtain ⟨r3, hr3⟩ : ∃ r : Int, (if decide (V.int (c / 23 % 5) = V.int 1) = true then (1 : Int) else 0) = r := ⟨_, rfl⟩
      have hR : 0 < 23 + 277 * r1 - 270 * r2 ∧ 23 + 277 * r1 - 270 * r2 ≤ 300 := by
        rw [← hr1, ← hr2]
        by_cases h1 : ((vts ws).length : Int) > 149
        · rw [decide_eq_true h1]
          by_cases h2 : ((vts ws).length : Int) > 500
          · rw [decide_eq_true h2]; decide
          · rw [decide_eq_false h2]; decide
        · rw [decide_eq_false h1, decide_eq_false (by omega)]; decide
      have hR3 : 0 ≤ r3 ∧ r3 ≤ 1 := by rw [← hr3]; split <;> omega
      refine ⟨_, rfl, p, _, rfl, .inl hS, _, _, rfl, rfl, .inr ⟨_, rfl, ?_⟩⟩
      rw [hr1]
      refine ⟨_, _, rfl, rfl, .inl ⟨by decide, by decide⟩, _, _, rfl, rfl, _, rfl, p, _, rfl, .inl hS, _, _, rfl, rfl, .inr ⟨_, rfl, ?_⟩⟩
      rw [hr2]
      refine ⟨_, _, rfl, rfl, .inl ⟨by decide, by decide⟩, rI0_at (v := .int (23 + 277 * r1 - 270 * r2)) rfl ?_⟩
      obtain ⟨R, hRe⟩ : ∃ R, 23 + 277 * r1 - 270 * r2 = R := ⟨_, rfl⟩
      rw [hRe] at hR ⊢
      refine ⟨_, rfl, p, ws, rfl, hS, hw, _, rfl, _, rfl, _, _, rfl, rfl, (show (0 : Int) < R by omega), _, _, rfl, rfl, _, rfl, _, _, rfl, rfl, ⟨by decide, by decide⟩, _, _, rfl, rfl, (show (0 : Int) < 5 by decide), rfl, .inr ⟨_, rfl, ?_⟩⟩
      rw [hr3]
      have m1 := Int.emod_nonneg c (b := R) (by omega)
      have m2 := Int.emod_lt_of_pos c (b := R) (by omega)
      refine ⟨_, _, rfl, rfl, .inl ⟨by decide, by decide⟩, _, _, rfl, rfl, _, _, rfl, q _ _ (Same.refl H) ?_⟩
      split <;> exact Wb.sm (by omega) (by omega)

def sp__law_price (K : PySem.W.Frag) : Sp := fun vs H Q _ => ∃ (p : Addr) (ws : List (List Nat)) (n : Int) (a e : Nat), vs = [.ref p, .int n, .int a, .int e] ∧ SqL K H p (vts ws) ∧ Bw ws ∧ Wb n ∧
  ∀ H', Same H H' → Q (.int (pr ws n a e)) H'
theorem ok__law_price (A : At K mg "_law_price" ["_law_row", "_law_width", "_law_begin", "_law_end"] st__law_price) (T : Bts mg) (G__law_size : Ok P w K mg base CX0 1 "_law_size" ["_law_row", "_law_begin", "_law_end"] (sp__law_size K)) :
    Ok P w K mg base CX0 2 "_law_price" ["_law_row", "_law_width", "_law_begin", "_law_end"] (sp__law_price K) := by
  refine A.ok sc__law_price (fun vs H Q E h => ?_) (fun f cdv A outer s H vs Q E hr h => ?_)
  · obtain ⟨p, ws, n, a, e, rfl, _⟩ := h; rfl
  · obtain ⟨p, ws, n, a, e, rfl, hS, hw, hn, q⟩ := h
    refine ⟨_, (pss_cons (ps_if (pt_cmpR op_eq (pv 3) (pe_callB (call_lenK K) (by rfl) T.m_len PySem.boot_len (pa_cons (pv 0) pa_nil)) (nomark _)) (pss_one (ps_ret pe_int)) pss_nil)
      (pss_one (ps_ret (pe_op op_powW (pe_op op_sub (pv 1) (pe_cd G__law_size (hr.mono (by decide)) pass0 (pa_cons (pv 0) (pa_cons (pv 2) (pa_cons (pv 3) pa_nil))))) pe_int)))), ?_⟩
    refine ⟨_, rfl, _, rfl, p, _, rfl, .inl hS, rfl, _, rfl, tst (c := e = ws.length) (by rw [dec_vi, List.length_map]; simp only [decide_eq_decide]; omega) (fun h1 => ?_) (fun h1 => ?_)⟩
    · have := q H (Same.refl H)
      rw [pr_last h1] at this; exact this
    · have hs := hw.size a e
      refine ⟨_, rfl, _, rfl, _, rfl, _, rfl, p, ws, a, e, rfl, hS, hw, fun H' s' => ?_⟩
      refine ⟨_, _, rfl, rfl, _, _, rfl, rfl, by decide, hn.pow (by omega), ?_⟩
      rw [pow_two']
      have := q H' s'
      rw [pr_gap h1] at this; exact this

def sp__law_sum (K : PySem.W.Frag) : Sp := fun vs H Q _ => ∃ (p o : Addr) (ws : List (List Nat)) (n : Int) (ks : List Nat), vs = [.ref p, .int n, .ref o] ∧ SqL K H p (vts ws) ∧ SqL K H o (vis (toI ks)) ∧ Bw ws ∧ Wb n ∧ ks.length ≤ 1000000 ∧
  ∀ H', Same H H' → Q (.int (sm ws n ks)) H'
theorem ok__law_sum (A : At K mg "_law_sum" ["_law_row", "_law_width", "_law_found"] st__law_sum) (T : Bts mg)
    (G__law_price : Ok P w K mg base CX0 2 "_law_price" ["_law_row", "_law_width", "_law_begin", "_law_end"] (sp__law_price K)) :
    Ok P w K mg base CX0 3 "_law_sum" ["_law_row", "_law_width", "_law_found"] (sp__law_sum K) := by
  refine A.ok sc__law_sum (fun vs H Q E h => ?_) (fun f cdv A outer s H vs Q E hr h => ?_)
  · obtain ⟨p, o, ws, n, ks, rfl, _⟩ := h; rfl
  · obtain ⟨p, o, ws, n, ks, rfl, hS, hO, hw, hn, hl, q⟩ := h
    refine ⟨_, (pss_cons (ps_set (i := 3) sc__law_sum.nd rfl (Or.inl rfl) (pe_op op_cat (pe_slice (sl_listK K) (pv 2) (po_some pe_int) po_none) (pe_lst (pa_cons (pe_callB (call_lenK K) (by rfl) T.m_len PySem.boot_len (pa_cons (pv 0) pa_nil)) pa_nil))))
      (pss_cons (ps_set (i := 4) sc__law_sum.nd rfl (Or.inl rfl) pe_int)
      (pss_cons (ps_for PassesOwn.never rfl (pi_range1 (by rfl) T.m_range (pa_cons (pe_callB (call_lenK K) (by rfl) T.m_len PySem.boot_len (pa_cons (pv 2) pa_nil)) pa_nil)) (pg_name (i := 5) sc__law_sum.nd rfl (Or.inl rfl))
      (pss_one (ps_set (i := 4) sc__law_sum.nd rfl (Or.inl rfl) (pe_op op_add (pv 4) (pe_cd G__law_price (hr.mono (by decide)) pass0 (pa_cons (pv 0) (pa_cons (pv 1) (pa_cons (pe_ix (ix_listK K) (pv 2) (pv 5) (fun _ _ => rfl)) (pa_cons (pe_ix (ix_listK K) (pv 3) (pv 5) (fun _ _ => rfl)) pa_nil)))))))))
      (pss_one (ps_ret (pv 4)))))), ?_⟩
    refine ⟨_, rfl, 1, rfl, o, _, rfl, hO, fun c nc => ?_⟩
    have s2 := (Same.refl H).new (o := HO.lst (cutV (vis (toI ks)) (some 1) none)) nc
    have ec : (upd H c (HO.lst (cutV (vis (toI ks)) (some 1) none))) c = some (.lst (vis ((toI ks).drop 1))) := by
      rw [upd_same]; exact congrArg some (congrArg HO.lst (cut_from V.int (toI ks) 1))
    generalize upd H c (HO.lst (cutV (vis (toI ks)) (some 1) none)) = H2 at s2 ec ⊢
    refine ⟨_, rfl, p, _, rfl, .inl (s2.seq hS), sz (by simp), fun d nd => ?_⟩
    have s3 := s2.new (o := HO.lst [V.int ((vts ws).length : Nat)]) nd
    have ed : (upd H2 d (HO.lst [V.int ((vts ws).length : Nat)])) d = some (.lst [V.int ((vts ws).length : Nat)]) := upd_same
    have ec3 := kept ec nd (o := HO.lst [V.int ((vts ws).length : Nat)])
    generalize upd H2 d (HO.lst [V.int ((vts ws).length : Nat)]) = H3 at s3 ed ec3 ⊢
    refine ⟨c, d, _, _, rfl, rfl, ec3, ed, sz (by rw [List.length_map, List.length_drop, toI_length]; simp; omega), fun g ng => ?_⟩
    have eg : vis ((toI ks).drop 1) ++ [V.int ((vts ws).length : Nat)] = vis (toI (ks.drop 1 ++ [ws.length])) := by rw [List.length_map]; exact ends_vis ks ws.length
    rw [eg]
    have s4 := s3.new (o := HO.lst (vis (toI (ks.drop 1 ++ [ws.length])))) ng
    have eg4 : (upd H3 g (HO.lst (vis (toI (ks.drop 1 ++ [ws.length]))))) g = some (.lst (vis (toI (ks.drop 1 ++ [ws.length])))) := upd_same
    generalize upd H3 g (HO.lst (vis (toI (ks.drop 1 ++ [ws.length])))) = H4 at s4 eg4 ⊢
    refine ⟨_, rfl, o, _, rfl, .inl (s4.seq hO), ks.length, by rw [List.length_map, toI_length], by omega, by omega, ?_⟩
    refine for_range (n := ks.length) (fun i σ H' => Same H4 H' ∧ ∃ z, σ = [some (.ref p), some (.int n), some (.ref o), some (.ref g), some (.int (smTo ws n ks i)), z]) ?_ ?_ ?_
    · exact ⟨Same.refl _, none, rfl⟩
    · rintro i σ H' hi ⟨s5, z, rfl⟩
      have e0 : (0 + (i : Int)) = (i : Int) := by omega
      have hp : i < (pairs ws.length ks).length := by rw [pairs_length]; exact hi
      obtain ⟨pp, hpp⟩ : ∃ pp, (pairs ws.length ks)[i]? = some pp := ⟨_, List.getElem?_eq_getElem hp⟩
      obtain ⟨g1, g2⟩ := pairs_get hpp
      have f1 : (vis (toI ks))[i]? = some (V.int (pp.1 : Nat)) := flat_get (toI_get g1)
      have f2 : (vis (toI (ks.drop 1 ++ [ws.length])))[i]? = some (V.int (pp.2 : Nat)) := flat_get (toI_get g2)
      refine ⟨_, rfl, _, rfl, _, rfl, _, rfl, _, rfl, o, _, _, _, rfl, rfl, s5.seq (s4.seq hO), at_of e0 f1, _, rfl, _, rfl, g, _, _, _, rfl, rfl, .of (s5 _ _ eg4), at_of e0 f2, p, ws, n, pp.1, pp.2, rfl, s5.seq (s4.seq hS), hw, hn, fun H6 s6 => ?_⟩
      refine ⟨_, _, rfl, rfl, s5.trans s6, some (.int (0 + (i : Int))), ?_⟩
      rw [smTo_succ hpp]; rfl
    · rintro σ H' ⟨s5, z, rfl⟩
      refine ⟨_, rfl, ?_⟩
      rw [smTo_all]
      exact q H' (s4.trans s5)

theorem fc_of {ws : List (List Nat)} {wd : Int} : ∀ {r : List Int} {a : Nat}, (∀ (k : Nat) (x e : Int), ((a : Int) :: r)[k]? = some x → (r ++ [(ws.length : Int)])[k]? = some e → x < e ∧ ((size ws x.toNat e.toNat : Nat) : Int) ≤ wd) → ∃ ks, ((a : Int) :: r) = toI ks ∧ Fc ws wd a ks
  | [], a, h => by
    have := h 0 a ws.length rfl rfl
    exact ⟨[a], rfl, rfl, ws.length, by omega, Nat.le_refl _, by simpa using this.2, rfl⟩
  | y :: r, a, h => by
    have h0 := h 0 a y rfl rfl
    obtain ⟨b, rfl⟩ : ∃ b : Nat, y = (b : Int) := ⟨y.toNat, by omega⟩
    obtain ⟨ks, k1, k2⟩ := fc_of (r := r) (a := b) (fun k x e h1 h2 => h (k + 1) x e h1 h2)
    exact ⟨a :: ks, by rw [k1]; rfl, rfl, b, by omega, k2.ch.le, by simpa using h0.2, k2⟩
def sp__law_are_starts (K : PySem.W.Frag) : Sp := fun vs H Q _ => ∃ (p o : Addr) (ws : List (List Nat)) (n : Int) (xs : List Int), vs = [.ref p, .int n, .ref o] ∧ SqL K H p (vts ws) ∧ H o = some (.lst (vis xs)) ∧ Bw ws ∧ xs.length ≤ 1000000 ∧
  ∀ H' b, Same H H' → (b = true ↔ ∃ ks, xs = toI ks ∧ Fc ws n 0 ks) → Q (.bl b) H'
theorem ok__law_are_starts (A : At K mg "_law_are_starts" ["_law_row", "_law_width", "_law_found"] st__law_are_starts) (T : Bts mg) (G__law_wholes : Ok P w K mg base CX0 2 "_law_wholes" ["_law_found"] (sp__law_wholes K))
    (G__law_size : Ok P w K mg base CX0 1 "_law_size" ["_law_row", "_law_begin", "_law_end"] (sp__law_size K)) :
    Ok P w K mg base CX0 3 "_law_are_starts" ["_law_row", "_law_width", "_law_found"] (sp__law_are_starts K) := by
  refine A.ok sc__law_are_starts (fun vs H Q E h => ?_) (fun f cdv A outer s H vs Q E hr h => ?_)
  · obtain ⟨p, o, ws, n, xs, rfl, _⟩ := h; rfl
  · obtain ⟨p, o, ws, n, xs, rfl, hS, eo, hw, hl, q⟩ := h
    refine ⟨_, (pss_cons (ps_if (pt_not (pt_val (pe_cd G__law_wholes (hr.mono (by decide)) pass0 (pa_cons (pv 2) pa_nil)))) (pss_one (ps_ret pe_bl)) pss_nil)
      (pss_cons (ps_set (i := 3) sc__law_are_starts.nd rfl (Or.inl rfl) (pe_op op_cat (pe_slice (sl_listK K) (pv 2) (po_some pe_int) po_none) (pe_lst (pa_cons (pe_callB (call_lenK K) (by rfl) T.m_len PySem.boot_len (pa_cons (pv 0) pa_nil)) pa_nil))))
      (pss_cons (ps_if (pt_cmpR (op_eqL hr) (pv 2) (pe_lst pa_nil) (nomark _)) (pss_one (ps_ret (pe_cmpR (op_eqL hr) (pv 0) (pe_lst pa_nil) (nomark _)))) pss_nil)
      (pss_cons (ps_if (pt_cmpR op_ne (pe_ix (ix_listK K) (pv 2) pe_int (fun _ _ => rfl)) pe_int (nomark _)) (pss_one (ps_ret pe_bl)) pss_nil)
      (pss_cons (ps_for PassesOwn.never rfl (pi_range1 (by rfl) T.m_range (pa_cons (pe_callB (call_lenK K) (by rfl) T.m_len PySem.boot_len (pa_cons (pv 2) pa_nil)) pa_nil)) (pg_name (i := 4) sc__law_are_starts.nd rfl (Or.inl rfl))
      (pss_one (ps_if (PW.pt (pw_or (pt_not (pt_cmpR op_lt (pe_ix (ix_listK K) (pv 2) (pv 4) (fun _ _ => rfl)) (pe_ix (ix_listK K) (pv 3) (pv 4) (fun _ _ => rfl)) (nomark _))) (pw_or1 (pt_cmpR op_gt (pe_cd G__law_size (hr.mono (by decide)) pass0 (pa_cons (pv 0) (pa_cons (pe_ix (ix_listK K) (pv 2) (pv 4) (fun _ _ => rfl)) (pa_cons (pe_ix (ix_listK K) (pv 3) (pv 4) (fun _ _ => rfl)) pa_nil)))) (pv 1) (nomark _))))) (pss_one (ps_ret pe_bl)) pss_nil)))
      (pss_one (ps_ret pe_bl))))))), ?_⟩
    have hle := hw.le
    refine ⟨_, rfl, o, xs, rfl, eo, _, rfl, iteF ?_⟩
    refine ⟨_, rfl, 1, rfl, o, _, rfl, .of eo, fun c nc => ?_⟩
    have s2 := (Same.refl H).new (o := HO.lst (cutV (vis xs) (some 1) none)) nc
    have ec : (upd H c (HO.lst (cutV (vis xs) (some 1) none))) c = some (.lst (vis (xs.drop 1))) := by
      rw [upd_same]; exact congrArg some (congrArg HO.lst (cut_from V.int xs 1))
    generalize upd H c (HO.lst (cutV (vis xs) (some 1) none)) = H2 at s2 ec ⊢
    refine ⟨_, rfl, p, _, rfl, .inl (s2.seq hS), sz (by simp), fun d nd => ?_⟩
    have s3 := s2.new (o := HO.lst [V.int ((vts ws).length : Nat)]) nd
    have ed : (upd H2 d (HO.lst [V.int ((vts ws).length : Nat)])) d = some (.lst [V.int ((vts ws).length : Nat)]) := upd_same
    have ec3 := kept ec nd (o := HO.lst [V.int ((vts ws).length : Nat)])
    generalize upd H2 d (HO.lst [V.int ((vts ws).length : Nat)]) = H3 at s3 ed ec3 ⊢
    refine ⟨c, d, _, _, rfl, rfl, ec3, ed, sz (by rw [List.length_map, List.length_drop]; simp; omega), fun g ng => ?_⟩
    have eg : vis (xs.drop 1) ++ [V.int ((vts ws).length : Nat)] = vis (xs.drop 1 ++ [(ws.length : Int)]) := by rw [List.length_map]; exact (vis_app _ _).symm
    rw [eg]
    have s4 := s3.new (o := HO.lst (vis (xs.drop 1 ++ [(ws.length : Int)]))) ng
    have eg4 : (upd H3 g (HO.lst (vis (xs.drop 1 ++ [(ws.length : Int)])))) g = some (.lst (vis (xs.drop 1 ++ [(ws.length : Int)]))) := upd_same
    generalize upd H3 g (HO.lst (vis (xs.drop 1 ++ [(ws.length : Int)]))) = H4 at s4 eg4 ⊢
    refine ⟨_, rfl, sz (by simp), fun e ne => ?_⟩
    have s5 := s4.new (o := HO.lst []) ne
    have eg5 := kept eg4 ne (o := HO.lst [])
    have ee : (upd H4 e (HO.lst [])) e = some (.lst []) := upd_same
    generalize upd H4 e (HO.lst []) = H5 at s5 eg5 ee ⊢
    have eo5 := s5 _ _ eo
    refine ⟨o, e, _, _, rfl, rfl, .of eo5, .of ee, flat_vis _, rfl, _, rfl, tst (c := xs = []) (by simp only [decide_eq_decide]; rw [List.map_eq_nil_iff]) (fun h1 => ?_) (fun h1 => ?_)⟩
    · subst h1
      refine ⟨_, rfl, sz (by simp), fun d2 nd2 => ?_⟩
      refine ⟨p, d2, _, _, rfl, rfl, (s5.new nd2).seq hS, .of upd_same, hw.flat, rfl, ?_⟩
      refine q _ _ (s5.new nd2) ?_
      rw [decide_eq_true_iff, List.map_eq_nil_iff]
      constructor
      · intro z
        subst z
        exact ⟨[], rfl, rfl⟩
      · rintro ⟨ks, k1, k2⟩
        have : ks = [] := List.map_eq_nil_iff.mp k1.symm
        subst this
        have : 0 = ws.length := k2
        exact List.length_eq_zero_iff.mp this.symm
    · obtain ⟨b, r, rfl⟩ : ∃ b r, xs = b :: r := by
        cases xs with
        | nil => exact absurd rfl h1
        | cons b r => exact ⟨b, r, rfl⟩
      -- what a pair of places must be
      have must : (∃ ks, b :: r = toI ks ∧ Fc ws n 0 ks) → b = 0 ∧ ∀ (k : Nat) (x e : Int), (b :: r)[k]? = some x → (r ++ [(ws.length : Int)])[k]? = some e → x < e ∧ ((size ws x.toNat e.toNat : Nat) : Int) ≤ n := by
        rintro ⟨ks, k1, k2⟩
        have kl : ks.length = r.length + 1 := by have := congrArg List.length k1; rw [toI_length] at this; simp at this; omega
        refine ⟨?_, fun k x e hx he => ?_⟩
        · cases ks with
          | nil => simp at kl
          | cons c t =>
            have hc : c = 0 := k2.1
            subst hc
            exact (List.cons.inj k1).1
        · have hk : k < (pairs ws.length ks).length := by
            rw [pairs_length, kl]
            have := (List.getElem?_eq_some_iff.mp hx).1
            simpa using this
          obtain ⟨pp, hpp⟩ : ∃ pp, (pairs ws.length ks)[k]? = some pp := ⟨_, List.getElem?_eq_getElem hk⟩
          have hm := List.mem_of_getElem? hpp
          obtain ⟨g1, g2⟩ := pairs_get hpp
          have f1 := toI_get g1
          rw [← k1, hx] at f1
          cases f1
          have f2 := toI_get g2
          rw [toI_app, ← toI_drop, ← k1] at f2
          have f3 : (r ++ [(ws.length : Int)])[k]? = some ((pp.2 : Nat) : Int) := f2
          rw [he] at f3
          cases f3
          have := k2.ch.pairs pp hm
          have := k2.fits pp hm
          exact ⟨by omega, by simpa using this⟩
      refine ⟨_, rfl, o, _, _, _, rfl, rfl, .of eo5, atI_nat (j := 0) rfl, rfl, _, rfl, tsn (c := b = 0) (by rw [dec_vi]) (fun h2 => ?_) (fun h2 => ?_)⟩
      · exact q _ _ s5 ⟨fun z => (nomatch z), fun z => absurd (must z).1 h2⟩
      subst h2
      refine ⟨_, rfl, o, _, rfl, .inl (.of eo5), (0 :: r).length, by rw [List.length_map], by omega, by omega, ?_⟩
      refine for_range (n := (0 :: r).length) (fun i σ H' => Same H5 H' ∧ (∃ z, σ = [some (.ref p), some (.int n), some (.ref o), some (.ref g), z]) ∧ (∀ x, (0 :: r : List Int)[i]? = some x → 0 ≤ x) ∧
        ∀ (k : Nat) (x e : Int), k < i → (0 :: r : List Int)[k]? = some x → (r ++ [(ws.length : Int)])[k]? = some e → x < e ∧ ((size ws x.toNat e.toNat : Nat) : Int) ≤ n) ?_ ?_ ?_
      · exact ⟨Same.refl _, ⟨none, rfl⟩, fun x hx => by cases hx; exact Int.le_refl _, fun k x e hk => absurd hk (Nat.not_lt_zero _)⟩
      · rintro i σ H' hi ⟨s6, ⟨z, rfl⟩, p0, pa⟩
        have e0 : (0 + (i : Int)) = (i : Int) := by omega
        obtain ⟨x, hx⟩ : ∃ x, (0 :: r : List Int)[i]? = some x := ⟨_, List.getElem?_eq_getElem hi⟩
        obtain ⟨e, he⟩ : ∃ e, (r ++ [(ws.length : Int)])[i]? = some e := ⟨_, List.getElem?_eq_getElem (by simp only [List.length_append, List.length_cons, List.length_nil] at hi ⊢; omega)⟩
        have x0 := p0 x hx
        have f1 : (vis (0 :: r))[i]? = some (V.int x) := flat_get hx
        have f2 : (vis ((0 :: r : List Int).drop 1 ++ [(ws.length : Int)]))[i]? = some (V.int e) := flat_get he
        have eo6 := s6 _ _ eo5
        have eg6 := s6 _ _ eg5
        refine ⟨_, rfl, _, rfl, o, _, _, _, rfl, rfl, .of eo6, at_of e0 f1, _, rfl, _, rfl, g, _, _, _, rfl, rfl, .of eg6, at_of e0 f2, _, _, rfl, rfl, _, rfl, ?_⟩
        by_cases c1 : x < e
        · rw [decide_eq_true c1]
          refine iteF ?_
          obtain ⟨x', rfl⟩ : ∃ x' : Nat, x = (x' : Int) := ⟨x.toNat, by omega⟩
          obtain ⟨e', rfl⟩ : ∃ e' : Nat, e = (e' : Int) := ⟨e.toNat, by omega⟩
          refine ⟨_, rfl, _, rfl, _, rfl, o, _, _, _, rfl, rfl, .of eo6, at_of e0 f1, _, rfl, _, rfl, g, _, _, _, rfl, rfl, .of eg6, at_of e0 f2, p, ws, x', e', rfl, (s5.trans s6).seq hS, hw, fun H7 s7 => ?_⟩
          refine ⟨_, rfl, _, _, rfl, rfl, _, rfl, tst (c := n < ((size ws x' e' : Nat) : Int)) rfl (fun c2 => ?_) (fun c2 => ?_)⟩
          · refine q _ _ ((s5.trans s6).trans s7) ⟨fun z => (nomatch z), fun z => ?_⟩
            have := ((must z).2 i _ _ hx he).2
            simp only [Int.toNat_natCast] at this
            omega
          · refine ⟨s6.trans s7, ⟨some (.int (0 + (i : Int))), rfl⟩, fun x2 hx2 => ?_, fun k x2 e2 hk h3 h4 => ?_⟩
            · have h5 : r[i]? = some x2 := hx2
              rw [List.getElem?_append_left (List.getElem?_eq_some_iff.mp h5).1, h5] at he
              have := Option.some.inj he
              omega
            · rcases Nat.lt_or_ge k i with l | l
              · exact pa k x2 e2 l h3 h4
              · have : k = i := by omega
                subst this
                rw [hx] at h3
                rw [he] at h4
                cases h3; cases h4
                exact ⟨c1, by simp only [Int.toNat_natCast]; omega⟩
        · rw [decide_eq_false c1]
          refine iteT ?_
          refine iteT ?_
          exact q _ _ (s5.trans s6) ⟨fun z => (nomatch z), fun z => absurd ((must z).2 i x e hx he).1 c1⟩
      · rintro σ H' ⟨s6, ⟨z, rfl⟩, p0, pa⟩
        refine q _ _ (s5.trans s6) ⟨fun _ => ?_, fun _ => rfl⟩
        exact fc_of (r := r) (a := 0) fun k x e h1 h2 => pa k x e (List.getElem?_eq_some_iff.mp h1).1 h1 h2

def sp__law_others_by (K : PySem.W.Frag) : Sp := fun vs H Q _ => ∃ (c p : Addr) (cs : List Int) (ws : List (List Nat)) (n : Int), vs = [.ref c, .ref p, .int n] ∧ SqL K H c (vis cs) ∧ SqL K H p (vts ws) ∧ Bw ws ∧ Ft ws n ∧
  ∀ H' o os, Same H H' → H o = none → H' o = some (.lst (vis (toI os))) → Fc ws n 0 os → (cs = [] → Qk ws n 0 os) → Q (.ref o) H'
theorem ok__law_others_by (A : At K mg "_law_others_by" ["_law_cells", "_law_row", "_law_width"] st__law_others_by) (T : Bts mg)
    (G__law_size : Ok P w K mg base CX0 1 "_law_size" ["_law_row", "_law_begin", "_law_end"] (sp__law_size K)) :
    Ok P w K mg base CX0 2 "_law_others_by" ["_law_cells", "_law_row", "_law_width"] (sp__law_others_by K) := by
  refine A.ok sc__law_others_by (fun vs H Q E h => ?_) (fun f cdv A outer s H vs Q E hr h => ?_)
  · obtain ⟨c, p, cs, ws, n, rfl, _⟩ := h; rfl
  · obtain ⟨c, p, cs, ws, n, rfl, hC, hS, hw, ft, q⟩ := h
    refine ⟨_, (pss_cons (ps_set (i := 3) sc__law_others_by.nd rfl (Or.inl rfl) (pe_lst pa_nil))
      (pss_cons (ps_set (i := 4) sc__law_others_by.nd rfl (Or.inl rfl) pe_int)
      (pss_cons (ps_while PassesOwn.never (pt_cmpR op_lt (pv 4) (pe_callB (call_lenK K) (by rfl) T.m_len PySem.boot_len (pa_cons (pv 1) pa_nil)) (nomark _))
      (pss_cons (ps_set (i := 5) sc__law_others_by.nd rfl (Or.inl rfl) (pe_op op_add (pv 4) pe_int))
      (C8.pss_cut (ps_while PassesOwn.never (PW.pt (pw_and (pt_cmpR op_lt (pv 5) (pe_callB (call_lenK K) (by rfl) T.m_len PySem.boot_len (pa_cons (pv 1) pa_nil)) (nomark _)) (pw_and1 (pt_cmpR op_le (pe_cd G__law_size (hr.mono (by decide)) pass0 (pa_cons (pv 1) (pa_cons (pv 4) (pa_cons (pe_op op_add (pv 5) pe_int) pa_nil)))) (pv 2) (nomark _)))))
      (pss_one (ps_set (i := 5) sc__law_others_by.nd rfl (Or.inl rfl) (pe_op op_add (pv 5) pe_int))))
      (C8.pss_cut (ps_if (pt_cmpR op_lt (pe_callB (call_lenK K) (by rfl) T.m_len PySem.boot_len (pa_cons (pv 3) pa_nil)) (pe_callB (call_lenK K) (by rfl) T.m_len PySem.boot_len (pa_cons (pv 0) pa_nil)) (nomark _)) (pss_cons (ps_set (i := 6) sc__law_others_by.nd rfl (Or.inl rfl) (pe_ix (ix_listK K) (pv 0) (pe_callB (call_lenK K) (by rfl) T.m_len PySem.boot_len (pa_cons (pv 3) pa_nil)) (fun _ _ => rfl)))
      (pss_one (ps_set (i := 5) sc__law_others_by.nd rfl (Or.inl rfl) (pe_ix (ix_listK K) (pe_lst (pa_cons (pv 5) (pa_cons (pv 5) (pa_cons (pe_callB (call_max2 rfl) (by rfl) T.m_max (by decide +kernel) (pa_cons (pe_op op_add (pv 4) pe_int) (pa_cons (pe_op op_sub (pv 5) pe_int) pa_nil))) (pa_cons (pe_op op_add (pe_op op_add (pv 4) pe_int) (pe_op op_mod (pe_op op_fdiv (pv 6) pe_int) (pe_op op_sub (pv 5) (pv 4)))) pa_nil))))) (pe_op op_mod (pv 6) pe_int) (fun _ _ => rfl))))) pss_nil)
      (pss_cons (ps_expr (pe_bm PySem.F.plainAttrs_list PySem.F.slot_list_append PySem.F.type_list_append mt_append (pv 3) (pa_cons (pv 4) pa_nil)))
      (pss_one (ps_set (i := 4) sc__law_others_by.nd rfl (Or.inl rfl) (pv 5))))))))
      (pss_one (ps_ret (pv 3)))))), ?_⟩
    have hle := hw.le
    refine ⟨sz (by simp), fun D hD => ?_⟩
    have s1 := (Same.refl H).new (o := HO.lst []) hD
    have eD : (upd H D (HO.lst [])) D = some (.lst (vis (toI []))) := upd_same
    generalize upd H D (HO.lst []) = H1 at s1 eD ⊢
    refine while_N (fun σ H' => Same H H' ∧ ∃ (x : Nat) (ks : List Nat) (y z : Option V), σ = [some (.ref c), some (.ref p), some (.int n), some (.ref D), some (.int x), y, z] ∧ H' D = some (.lst (vis (toI ks))) ∧ x ≤ ws.length ∧ ks.length ≤ x ∧
        (∀ r, Fc ws n x r → Fc ws n 0 (ks ++ r)) ∧ (cs = [] → ∀ r, Qk ws n x r → Qk ws n 0 (ks ++ r))) (fun σ _ => match σ with | [_, _, _, _, some (.int a), _, _] => ((ws.length : Int) - a).toNat | _ => 0) ?_ ?_
    · exact ⟨s1, 0, [], none, none, rfl, eD, Nat.zero_le _, Nat.le_refl _, fun r h => h, fun _ r h => h⟩
    rintro σ H' ⟨s2, x, ks, y, z, rfl, eD2, hx, hl, hk, hkq⟩
    refine ⟨_, rfl, _, rfl, p, _, rfl, .inl (s2.seq hS), _, _, rfl, rfl, _, rfl, tst (c := x < ws.length) (by rw [List.length_map]; simp only [decide_eq_decide]; omega) (fun h1 => ?_) (fun h1 => ?_)⟩
    · refine ⟨fun σ' H' => (Same H H' ∧ ∃ (x : Nat) (ks : List Nat) (y z : Option V), σ' = [some (.ref c), some (.ref p), some (.int n), some (.ref D), some (.int x), y, z] ∧ H' D = some (.lst (vis (toI ks))) ∧ x ≤ ws.length ∧ ks.length ≤ x ∧
        (∀ r, Fc ws n x r → Fc ws n 0 (ks ++ r)) ∧ (cs = [] → ∀ r, Qk ws n x r → Qk ws n 0 (ks ++ r))) ∧ (match σ' with | [_, _, _, _, some (.int a), _, _] => ((ws.length : Int) - a).toNat | _ => 0) < ((ws.length : Int) - (x : Int)).toNat, fun σ' H' ⟨h, h2⟩ => ⟨_, h2, rfl, h⟩, ?_⟩
      refine ⟨_, rfl, _, _, rfl, rfl, ?_⟩
      refine ⟨fun σ H2 => Same H' H2 ∧ ∃ (e : Nat), σ = [some (.ref c), some (.ref p), some (.int n), some (.ref D), some (.int x), some (.int e), z] ∧ x < e ∧ e ≤ ws.length ∧ ((size ws x e : Nat) : Int) ≤ n ∧ (e = ws.length ∨ n < ((size ws x (e + 1) : Nat) : Int)), ?_, ?_⟩
      · refine while_N (fun σ H2 => Same H' H2 ∧ ∃ (e : Nat), σ = [some (.ref c), some (.ref p), some (.int n), some (.ref D), some (.int x), some (.int e), z] ∧ x < e ∧ e ≤ ws.length ∧ ((size ws x e : Nat) : Int) ≤ n)
          (fun σ _ => match σ with | [_, _, _, _, _, some (.int a), _] => ((ws.length : Int) - a).toNat | _ => 0) ?_ ?_
        · exact ⟨Same.refl _, x + 1, rfl, Nat.lt_succ_self x, h1, ft.one h1⟩
        rintro σ H2 ⟨s3, e, rfl, h2, h3, h4⟩
        have s23 := s2.trans s3
        refine ⟨_, rfl, _, rfl, p, _, rfl, .inl (s23.seq hS), _, _, rfl, rfl, _, rfl, ?_⟩
        by_cases h5 : e < ws.length
        · rw [decide_eq_true (show ((e : Nat) : Int) < ((vts ws).length : Nat) by rw [List.length_map]; omega)]
          refine ⟨_, rfl, _, rfl, _, rfl, _, _, rfl, rfl, p, ws, x, e + 1, rfl, s23.seq hS, hw, fun H3 s4 => ?_⟩
          refine ⟨_, rfl, _, _, rfl, rfl, _, rfl, tst (c := ((size ws x (e + 1) : Nat) : Int) ≤ n) rfl (fun h6 => ?_) (fun h6 => ?_)⟩
          · refine ⟨fun σ' H4 => (Same H' H4 ∧ ∃ (e : Nat), σ' = [some (.ref c), some (.ref p), some (.int n), some (.ref D), some (.int x), some (.int e), z] ∧ x < e ∧ e ≤ ws.length ∧ ((size ws x e : Nat) : Int) ≤ n) ∧
              (match σ' with | [_, _, _, _, _, some (.int a), _] => ((ws.length : Int) - a).toNat | _ => 0) < ((ws.length : Int) - (e : Int)).toNat, fun σ' H' ⟨h, h2⟩ => ⟨_, h2, rfl, h⟩, ?_⟩
            refine ⟨_, rfl, _, _, rfl, rfl, ⟨s3.trans s4, e + 1, rfl, by omega, by omega, h6⟩, ?_⟩
            show ((ws.length : Int) - ((e : Int) + 1)).toNat < ((ws.length : Int) - (e : Int)).toNat
            omega
          · exact ⟨s3.trans s4, e, rfl, h2, h3, h4, .inr (by omega)⟩
        · rw [decide_eq_false (show ¬ ((e : Nat) : Int) < ((vts ws).length : Nat) by rw [List.length_map]; omega)]
          exact iteF ⟨s3, e, rfl, h2, h3, h4, .inl (by omega)⟩
      rintro σ H2 ⟨s3, e, rfl, h2, h3, h4, hm4⟩
      have s23 := s2.trans s3
      have eD3 := s3 _ _ eD2
      refine ⟨fun σ H3 => Same H2 H3 ∧ ∃ (e : Nat) (z : Option V), σ = [some (.ref c), some (.ref p), some (.int n), some (.ref D), some (.int x), some (.int e), z] ∧ x < e ∧ e ≤ ws.length ∧ ((size ws x e : Nat) : Int) ≤ n ∧ (cs = [] → (e = ws.length ∨ n < ((size ws x (e + 1) : Nat) : Int))), ?_, ?_⟩
      · refine ⟨_, rfl, D, _, rfl, .inl (.of eD3), _, rfl, c, _, rfl, .inl (s23.seq hC), _, _, rfl, rfl, _, rfl, tst (c := ks.length < cs.length) (by rw [List.length_map, List.length_map, toI_length]; simp only [decide_eq_decide]; omega) (fun h5 => ?_) (fun h5 => ?_)⟩
        · have g0 : (vis cs)[ks.length]? = some (V.int cs[ks.length]) := flat_get (List.getElem?_eq_getElem h5)
          obtain ⟨u, hu⟩ : ∃ u, cs[ks.length] = u := ⟨_, rfl⟩
          rw [hu] at g0
          refine ⟨_, rfl, _, rfl, D, _, rfl, .inl (.of eD3), c, _, _, _, rfl, rfl, s23.seq hC, at_of (by rw [List.length_map, toI_length]) g0, ?_⟩
          obtain ⟨j, hj⟩ : ∃ j : Nat, u % 4 = (j : Int) := ⟨(u % 4).toNat, by omega⟩
          have hd : (0 : Int) < (e : Int) - (x : Int) := by omega
          have m1 := Int.emod_nonneg (u / 4) (b := (e : Int) - (x : Int)) (by omega)
          have m2 := Int.emod_lt_of_pos (u / 4) hd
          have hmx : ∀ a b : Int, (if b > a then b else a) = max a b := fun a b => by split <;> omega
          refine ⟨_, rfl, _, rfl, _, rfl, _, _, rfl, rfl, _, rfl, _, _, rfl, rfl, _, _, rfl, ?_⟩
          rw [hmx]
          refine ⟨_, rfl, _, _, rfl, rfl, _, rfl, _, _, rfl, rfl, ⟨by decide, by decide⟩, _, rfl, _, rfl, _, _, rfl, rfl, _, _, rfl, rfl, hd, _, _, rfl, rfl, sz (by simp), fun l nl => ?_⟩
          have hv : ∃ v : Nat, ([V.int (e : Int), V.int (e : Int), V.int (max ((x : Int) + 1) ((e : Int) - 1)), V.int ((x : Int) + 1 + u / 4 % ((e : Int) - (x : Int)))])[j]? = some (.int (v : Nat)) ∧ x < v ∧ v ≤ e := by
            have : j < 4 := by omega
            match j, this with
            | 0, _ => exact ⟨e, rfl, h2, Nat.le_refl _⟩
            | 1, _ => exact ⟨e, rfl, h2, Nat.le_refl _⟩
            | 2, _ => exact ⟨(max ((x : Int) + 1) ((e : Int) - 1)).toNat, by
                have : max ((x : Int) + 1) ((e : Int) - 1) = (((max ((x : Int) + 1) ((e : Int) - 1)).toNat : Nat) : Int) := by omega
                exact congrArg (fun z => some (V.int z)) this, by omega, by omega⟩
            | 3, _ => exact ⟨((x : Int) + 1 + u / 4 % ((e : Int) - (x : Int))).toNat, by
                have : (x : Int) + 1 + u / 4 % ((e : Int) - (x : Int)) = ((((x : Int) + 1 + u / 4 % ((e : Int) - (x : Int))).toNat : Nat) : Int) := by omega
                exact congrArg (fun z => some (V.int z)) this, by omega, by omega⟩
          obtain ⟨v, hv, v1, v2⟩ := hv
          refine ⟨_, rfl, _, _, rfl, rfl, (show (0 : Int) < 4 by decide), l, _, _, _, rfl, rfl, .of upd_same, at_of hj hv, (Same.refl _).new nl, v, some (.int u), rfl, v1, by omega, ?_, fun z => by subst z; simp at h5⟩
          have := size_mono (ws := ws) (Nat.le_refl x) v1 v2 h3
          omega
        · exact ⟨Same.refl _, e, z, rfl, h2, h3, h4, fun _ => hm4⟩
      clear h2 h3 h4 hm4
      rintro σ H3 ⟨s4, e, z, rfl, h2, h3, h4, hm4⟩
      have eD4 := s4 _ _ eD3
      have s24 := s23.trans s4
      refine ⟨_, rfl, .inl ⟨rfl, _, .of eD4⟩, _, rfl, D, _, _, rfl, rfl, eD4, by rw [List.length_map, toI_length]; exact sz (by omega), ?_⟩
      refine ⟨_, rfl, ⟨s24.put hD, e, ks ++ [x], some (.int e), z, rfl, by rw [upd_same, toI_app]; exact congrArg some (congrArg HO.lst (vis_app _ _).symm), h3, by rw [List.length_append, List.length_singleton]; omega, fun r hr => ?_, fun hc r hr => ?_⟩, ?_⟩
      · rw [List.append_assoc]
        exact hk _ ⟨rfl, e, h2, h3, h4, hr⟩
      · rw [List.append_assoc]
        exact hkq hc _ ⟨rfl, e, h2, h3, h4, hm4 hc, hr⟩
      · show ((ws.length : Int) - (e : Int)).toNat < ((ws.length : Int) - (x : Int)).toNat
        omega
    · refine ⟨_, rfl, q H' D ks s2 hD eD2 ?_ fun hc => ?_⟩
      · have := hk [] (show x = ws.length by omega)
        rw [List.append_nil] at this; exact this
      · have := hkq hc [] (show x = ws.length by omega)
        rw [List.append_nil] at this; exact this

theorem pigeon : ∀ (n : Nat) (xs : List Int), (∀ k : Nat, k < n → ((k : Nat) : Int) ∈ xs) → n ≤ xs.length
  | 0, _, _ => Nat.zero_le _
  | n + 1, xs, h => by
    have hm := h n (Nat.lt_succ_self n)
    have := pigeon n (xs.erase (n : Int)) fun k hk => (List.mem_erase_of_ne (by omega)).mpr (h k (by omega))
    rw [List.length_erase_of_mem hm] at this
    have := List.length_pos_of_mem hm
    omega
theorem inV_vis (x : Int) (xs : List Int) : inV (.int x) (vis xs) = decide (x ∈ xs) := by
  unfold inV
  rw [List.any_map]
  induction xs with
  | nil => simp
  | cons y r ih =>
    rw [List.any_cons, ih]
    have e : ((fun y => eqV y (V.int x)) ∘ V.int) y = decide (y = x) := by
      show (y == x) = decide (y = x)
      by_cases h : y = x
      · subst h; simp
      · simp [h]
    rw [e]
    by_cases h : y = x
    · subst h; simp
    · have h' : ¬ x = y := fun z => h z.symm
      simp [h, h']
theorem flatV_vis (xs : List Int) : (vis xs).all flatV = true := by simp [flatV]
def sp__law_in_lines (K : PySem.W.Frag) : Sp := fun vs H Q _ => ∃ (c p : Addr) (cs : List Int) (ws : List (List Nat)) (n m : Int), vs = [.ref c, .ref p, .int n, .int m] ∧ SqL K H c (vis cs) ∧ SqL K H p (vts ws) ∧ Bw ws ∧ Ft ws n ∧ m ≤ (ws.length : Nat) ∧ ws.length ≤ 2000 ∧
  ∀ H' o xs, Same H H' → H o = none → H' o = some (.lst (vis xs)) → xs.length ≤ 10000 → Q (.ref o) H'
theorem ok__law_in_lines (A : At K mg "_law_in_lines" ["_law_cells", "_law_row", "_law_width", "_law_many"] st__law_in_lines) (T : Bts mg)
    (G__law_others_by : Ok P w K mg base CX0 2 "_law_others_by" ["_law_cells", "_law_row", "_law_width"] (sp__law_others_by K)) :
    Ok P w K mg base CX0 3 "_law_in_lines" ["_law_cells", "_law_row", "_law_width", "_law_many"] (sp__law_in_lines K) := by
  refine A.ok sc__law_in_lines (fun vs H Q E h => ?_) (fun f cdv A outer s H vs Q E hr h => ?_)
  · obtain ⟨c, p, cs, ws, n, m, rfl, _⟩ := h; rfl
  · obtain ⟨c, p, cs, ws, n, m, rfl, hC, hS, hw, ft, hm, hws, q⟩ := h
    refine ⟨_, (pss_cons (ps_set (i := 4) sc__law_in_lines.nd rfl (Or.inr rfl) (pe_cd G__law_others_by (hr.mono (by decide)) pass0 (pa_cons (pv 0) (pa_cons (pv 1) (pa_cons (pv 2) pa_nil)))))
      (C8.pss_cut (ps_if (pt_cmpR op_gt (pe_callB (call_lenK K) (by rfl) T.m_len PySem.boot_len (pa_cons (pv 4) pa_nil)) (pv 3) (nomark _)) (pss_one (ps_set (i := 4) sc__law_in_lines.nd rfl (Or.inr rfl) (pe_cd G__law_others_by (hr.mono (by decide)) pass0 (pa_cons (pe_lst pa_nil) (pa_cons (pv 1) (pa_cons (pv 2) pa_nil)))))) pss_nil)
      (pss_cons (ps_while PassesOwn.never (pt_cmpR op_lt (pe_callB (call_lenK K) (by rfl) T.m_len PySem.boot_len (pa_cons (pv 4) pa_nil)) (pv 3) (nomark _))
      (pss_cons (ps_setLc (i := 5) (own := [("_law_k", 6)]) (g := gName 6) rfl sc__law_in_lines.nd rfl rfl (sw_true rfl rfl rfl (by decide +kernel)) (pi_range1 (by rfl) T.m_range (pa_cons (pe_callB (call_lenK K) (by rfl) T.m_len PySem.boot_len (pa_cons (pv 1) pa_nil)) pa_nil)) (blkOk_by (own := [("_law_k", 6)]) (N := N__law_in_lines) (sc := defScope st__law_in_lines) (by decide +kernel)) (fun _ _ _ _ _ => pg_name (i := 6) sc__law_in_lines.nd rfl (Or.inl rfl)) (fun _ _ _ _ _ => pts_one (pt_cmpR (op_notInK K) (pv 6) (pv 4) rfl)) (fun _ _ _ _ _ => (pv 6)))
      (pss_one (ps_set (i := 4) sc__law_in_lines.nd rfl (Or.inr rfl) (pe_callB cr_sortedI (by rfl) T.m_sorted (by decide +kernel) (pa_cons (pe_op op_cat (pv 4) (pe_lst (pa_cons (pe_ix (ix_listK K) (pv 5) (pe_op op_mod (pe_callB (cr_sum rfl) (by rfl) T.m_sum (by decide +kernel) (pa_cons (pe_slice (sl_listK K) (pv 0) po_none (po_some (pe_callB (call_lenK K) (by rfl) T.m_len PySem.boot_len (pa_cons (pv 4) pa_nil)))) pa_nil)) (pe_callB (call_lenK K) (by rfl) T.m_len PySem.boot_len (pa_cons (pv 5) pa_nil))) (fun _ _ => rfl)) pa_nil))) pa_nil))))))
      (pss_one (ps_ret (pv 4)))))), ?_⟩
    refine ⟨_, rfl, _, rfl, _, rfl, c, p, cs, ws, n, rfl, hC, hS, hw, ft, fun H1 o os s1 no eo hf _ => ?_⟩
    refine ⟨fun σ H' => Same H H' ∧ ∃ (o : Addr) (xs : List Int), σ = [some (.ref c), some (.ref p), some (.int n), some (.int m), some (.ref o), none, none] ∧ H o = none ∧ H' o = some (.lst (vis xs)) ∧ xs.length ≤ 2000, ?_, ?_⟩
    · refine ⟨_, rfl, o, _, rfl, .inl (.of eo), _, rfl, _, _, rfl, rfl, _, rfl, tst (c := m < (os.length : Nat)) (by rw [List.length_map, toI_length]) (fun h1 => ?_) (fun h1 => ?_)⟩
      · refine ⟨sz (by simp), fun e ne => ?_⟩
        have s2 := s1.new (o := HO.lst []) ne
        refine ⟨_, rfl, _, rfl, e, p, [], ws, n, rfl, .of upd_same, s2.seq hS, hw, ft, fun H3 o2 os2 s3 no2 eo2 hf2 _ => ?_⟩
        exact ⟨s2.trans s3, o2, toI os2, rfl, s2.free no2, eo2, by rw [toI_length]; have := hf2.ch.len; omega⟩
      · exact ⟨s1, o, toI os, rfl, no, eo, by rw [toI_length]; have := hf.ch.len; omega⟩
    rintro σ H2 ⟨s2, o, xs, rfl, no, eo, xl⟩
    refine while_N (fun σ H' => Same H H' ∧ ∃ (o : Addr) (xs : List Int) (y : Option V), σ = [some (.ref c), some (.ref p), some (.int n), some (.int m), some (.ref o), y, none] ∧ H o = none ∧ H' o = some (.lst (vis xs)) ∧ xs.length ≤ 2000)
      (fun σ H' => match σ with | [_, _, _, _, some (.ref o), _, _] => (match H' o with | some (.lst l) => (m - (l.length : Int)).toNat | _ => 0) | _ => 0) ?_ ?_
    · exact ⟨s2, o, xs, none, rfl, no, eo, xl⟩
    clear s2 no eo xl
    rintro σ H3 ⟨s3, o, xs, y, rfl, no, eo, xl⟩
    refine ⟨_, rfl, o, _, rfl, .inl (.of eo), _, rfl, _, _, rfl, rfl, _, rfl, tst (c := (xs.length : Int) < m) (by rw [List.length_map]) (fun h1 => ?_) (fun h1 => ?_)⟩
    · refine ⟨fun σ' H' => (Same H H' ∧ ∃ (o : Addr) (xs : List Int) (y : Option V), σ' = [some (.ref c), some (.ref p), some (.int n), some (.int m), some (.ref o), y, none] ∧ H o = none ∧ H' o = some (.lst (vis xs)) ∧ xs.length ≤ 2000) ∧
          (match σ' with | [_, _, _, _, some (.ref o), _, _] => (match H' o with | some (.lst l) => (m - (l.length : Int)).toNat | _ => 0) | _ => 0) < (match H3 o with | some (.lst l) => (m - (l.length : Int)).toNat | _ => 0), fun σ' H' ⟨h, h2⟩ => ⟨_, h2, rfl, h⟩, ?_⟩
      refine ⟨_, rfl, p, _, rfl, .inl (s3.seq hS), ws.length, by rw [List.length_map], by omega, by omega, fun D hD => ?_⟩
      refine lc_range (lo := 0) (n := ws.length) (fun i H' => Same H3 H' ∧ ∃ ls : List Int, H' D = some (.lst (vis ls)) ∧ ls.length ≤ i ∧ ∀ k : Nat, k < i → ((k : Nat) : Int) ∉ xs → ((k : Nat) : Int) ∈ ls) ?_ ?_ ?_
      · exact ⟨(Same.refl _).new hD, [], upd_same, Nat.le_refl _, fun k hk => absurd hk (Nat.not_lt_zero _)⟩
      · rintro i H' hi ⟨s4, ls, eD, ll, hls⟩
        refine ⟨rfl, ?_⟩
        refine ⟨_, rfl, _, rfl, o, _, rfl, .inl (.of (s4 _ _ eo)), rfl, flatV_vis xs, ?_⟩
        have e0 : (0 + (i : Int)) = ((i : Nat) : Int) := by omega
        rw [inV_vis, e0]
        by_cases hx : ((i : Nat) : Int) ∈ xs
        · rw [decide_eq_true hx]
          refine ⟨_, rfl, iteF ?_⟩
          refine ⟨s4, ls, eD, by omega, fun k hk hkx => ?_⟩
          rcases Nat.lt_or_ge k i with l | l
          · exact hls k l hkx
          · have : k = i := by omega
            subst this
            exact absurd hx hkx
        · rw [decide_eq_false hx]
          refine ⟨_, rfl, iteT ?_⟩
          refine ⟨_, rfl, _, eD, by rw [List.length_map]; exact szl (by omega), s4.put hD, ls ++ [((i : Nat) : Int)], by rw [upd_same]; exact congrArg some (congrArg HO.lst (vis_app _ _).symm), by rw [List.length_append, List.length_singleton]; omega, fun k hk hkx => ?_⟩
          rcases Nat.lt_or_ge k i with l | l
          · exact List.mem_append_left _ (hls k l hkx)
          · have : k = i := by omega
            subst this
            exact List.mem_append_right _ (List.mem_singleton.mpr rfl)
      rintro H4 ⟨s4, ls, eD, ll, hls⟩
      have lpos : 0 < ls.length := by
        refine Nat.pos_of_ne_zero fun z => ?_
        have hl0 : ls = [] := List.length_eq_zero_iff.mp z
        have := pigeon ws.length xs fun k hk => Decidable.byContradiction fun hx => by
          have := hls k hk hx
          rw [hl0] at this; cases this
        omega
      have s34 := s3.trans s4
      have eo4 := s4 _ _ eo
      refine ⟨_, rfl, _, rfl, _, rfl, _, rfl, o, _, rfl, .inl (.of eo4), ((vis xs).length : Nat), rfl, c, _, rfl, s34.seq hC, fun a na => ?_⟩
      have ea : cutV (vis cs) none (some (((vis xs).length : Nat) : Int)) = vis (cs.take (vis xs).length) := cut_to V.int cs _
      rw [ea]
      have k5 := (Same.refl H4).new (o := HO.lst (vis (cs.take (vis xs).length))) na
      have eD5 := kept eD na (o := HO.lst (vis (cs.take (vis xs).length)))
      have ea5 : (upd H4 a (HO.lst (vis (cs.take (vis xs).length)))) a = some (.lst (vis (cs.take (vis xs).length))) := upd_same
      generalize upd H4 a (HO.lst (vis (cs.take (vis xs).length))) = H5 at k5 eD5 ea5 ⊢
      obtain ⟨j, hj⟩ : ∃ j : Nat, (cs.take (vis xs).length).sum % (((vis ls).length : Nat) : Int) = (j : Int) := ⟨((cs.take (vis xs).length).sum % (((vis ls).length : Nat) : Int)).toNat, by
        have := Int.emod_nonneg (cs.take (vis xs).length).sum (b := (((vis ls).length : Nat) : Int)) (by rw [List.length_map]; omega); omega⟩
      have hjl : j < ls.length := by
        have := Int.emod_lt_of_pos (cs.take (vis xs).length).sum (b := (((vis ls).length : Nat) : Int)) (by rw [List.length_map]; omega)
        rw [hj, List.length_map] at this; omega
      have gj : (vis ls)[j]? = some (V.int ls[j]) := flat_get (List.getElem?_eq_getElem hjl)
      refine ⟨a, cs.take (vis xs).length, rfl, .of ea5, _, rfl, D, _, rfl, .inl (.of eD5), _, _, rfl, rfl, (show (0 : Int) < ((vis ls).length : Nat) by rw [List.length_map]; omega), D, _, _, _, rfl, rfl, .of eD5, at_of hj gj, sz (by simp), fun b nb => ?_⟩
      have k6 := k5.new (o := HO.lst [V.int ls[j]]) nb
      refine ⟨o, b, _, _, rfl, rfl, k6 _ _ eo4, upd_same, sz (by rw [List.length_map]; simp; omega), fun d nd => ?_⟩
      have ev : vis xs ++ [V.int ls[j]] = vis (xs ++ [ls[j]]) := (vis_app _ _).symm
      rw [ev]
      have k7 := k6.new (o := HO.lst (vis (xs ++ [ls[j]]))) nd
      refine ⟨d, xs ++ [ls[j]], rfl, .of upd_same, fun ns' g hp _ ng => ?_⟩
      have k8 := k7.new (o := HO.lst (vis ns')) ng
      have hlen : ns'.length = xs.length + 1 := by rw [hp.length_eq, List.length_append, List.length_singleton]
      refine ⟨⟨s34.trans k8, g, ns', _, rfl, s34.free (k7.free ng), upd_same, by omega⟩, ?_⟩
      show (match (upd _ g (HO.lst (vis ns'))) g with | some (.lst l) => (m - (l.length : Int)).toNat | _ => 0) < _
      rw [upd_same, eo]
      show (m - ((vis ns').length : Int)).toNat < (m - ((vis xs).length : Int)).toNat
      rw [List.length_map, List.length_map, hlen]
      omega
    · exact ⟨_, rfl, q H3 o xs s3 no eo (by omega)⟩

def flagSum (i : Nat) : Int := ((List.range 10).map fun k : Nat => (11 + (k : Int)) * (if (i == k) = true then 1 else 0)).sum
theorem flagSum_eq {i : Nat} (h : i < 10) : flagSum i = 11 + i := by
  have : ∀ i : Fin 10, flagSum i.1 = 11 + (i.1 : Int) := by decide +kernel
  exact this ⟨i, h⟩
theorem ok__law_kind {ea : EA} (A : At K mg "_law_kind" ["_law_e"] st__law_kind) (T : Bts mg) (X : Xs K mg ea) : Kinds P w K mg base ea 1 "_law_kind" "_law_e" := by
  obtain ⟨f, fd, g, F, b⟩ := A.ex
  refine ⟨f, fd, g, F.kp, b, fun i hi => kindFn_of F sc__law_kind fun cdv A outer s H E p Q hot1 hz hr q => ?_⟩
  have hC := (X.c hi).1
  have D := X.d hi
  have hf : ∃ vs, p.2.data = .fields vs := hot1.2.elim fun v z => ⟨v, z.1⟩
  have hp : p ∈ (L2H.cxH CX0 P w K mg base N__law_kind "_law_kind" (defScope st__law_kind) f cdv A outer s H E p).pn := List.mem_cons_self
  have hot : L2H.HotC (L2H.cxH CX0 P w K mg base N__law_kind "_law_kind" (defScope st__law_kind) f cdv A outer s H E p) := ⟨p, hot1, List.mem_cons_self⟩
  have tY : ∀ {C : Addr} (u : Value), RelV (.ref C) u → u = .ref C := fun u r => r
  refine ⟨_, (pss_cons (ps_set (i := 1) sc__law_kind.nd rfl (Or.inr rfl) (pe_lst (pa_cons (pe_callB (call_isP hC hz hf hp) (by rfl) T.m_isinstance (by decide +kernel) (pa_cons (pv 0) (pa_cons (pe_glob (v := .ref _) rfl X.c_NoWidth.g rfl) pa_nil))) (pa_cons (pe_callB (call_isP hC hz hf hp) (by rfl) T.m_isinstance (by decide +kernel) (pa_cons (pv 0) (pa_cons (pe_glob (v := .ref _) rfl X.c_LongWord.g rfl) pa_nil))) (pa_cons (pe_callB (call_isP hC hz hf hp) (by rfl) T.m_isinstance (by decide +kernel) (pa_cons (pv 0) (pa_cons (pe_glob (v := .ref _) rfl X.c_NoStarts.g rfl) pa_nil))) (pa_cons (pe_callB (call_isP hC hz hf hp) (by rfl) T.m_isinstance (by decide +kernel) (pa_cons (pv 0) (pa_cons (pe_glob (v := .ref _) rfl X.c_TooWide.g rfl) pa_nil))) pa_nil))))))
      (pss_cons (ps_set (i := 1) sc__law_kind.nd rfl (Or.inr rfl) (pe_op op_cat (pv 1) (pe_lst (pa_cons (pe_callB (call_isP hC hz hf hp) (by rfl) T.m_isinstance (by decide +kernel) (pa_cons (pv 0) (pa_cons (pe_glob (v := .ref _) rfl X.c_TooFew.g rfl) pa_nil))) (pa_cons (pe_callB (call_isP hC hz hf hp) (by rfl) T.m_isinstance (by decide +kernel) (pa_cons (pv 0) (pa_cons (pe_glob (v := .ref _) rfl X.c_TooMany.g rfl) pa_nil))) (pa_cons (pe_callB (call_isP hC hz hf hp) (by rfl) T.m_isinstance (by decide +kernel) (pa_cons (pv 0) (pa_cons (pe_glob (v := .ref _) rfl X.c_NoPlace.g rfl) pa_nil))) (pa_cons (pe_callB (call_isP hC hz hf hp) (by rfl) T.m_isinstance (by decide +kernel) (pa_cons (pv 0) (pa_cons (pe_glob (v := .ref _) rfl X.c_NoWord.g rfl) pa_nil))) pa_nil)))))))
      (pss_cons (ps_set (i := 1) sc__law_kind.nd rfl (Or.inr rfl) (pe_op op_cat (pv 1) (pe_lst (pa_cons (pe_callB (call_isP hC hz hf hp) (by rfl) T.m_isinstance (by decide +kernel) (pa_cons (pv 0) (pa_cons (pe_glob (v := .ref _) rfl X.c_Full.g rfl) pa_nil))) (pa_cons (pe_callB (call_isP hC hz hf hp) (by rfl) T.m_isinstance (by decide +kernel) (pa_cons (pv 0) (pa_cons (pe_glob (v := .ref _) rfl X.c_NoWayBack.g rfl) pa_nil))) pa_nil)))))
      (pss_one (ps_ret (pe_callB (cr_sumH hot) (by rfl) T.m_sum (by decide +kernel) (pa_cons (pe_lcH (own := [("_law_k", 2)]) (g := gName 2) (tt := tYes) hot sc__law_kind.nd (L2H.pi_range1H (by rfl) T.m_range (pa_cons pe_int pa_nil)) (blkOk_by (own := [("_law_k", 2)]) (N := N__law_kind) (sc := defScope st__law_kind) (by decide +kernel)) (fun _ _ _ _ _ => pg_name (i := 2) sc__law_kind.nd rfl (Or.inl rfl)) (fun _ _ _ _ _ => pts_nil) (fun _ _ _ _ _ => (pe_op op_mul (pe_op op_add pe_int (pv 2)) (pe_callTy call_int1 (by rfl) T.m_int (by decide +kernel) (pa_cons (pe_ix (ix_listK K) (pv 1) (pv 2) (fun _ _ => rfl)) pa_nil))))) pa_nil))))))), ?_⟩
  refine ⟨_, rfl, _, _, _, rfl, tY, D.k0, _, rfl, _, _, _, rfl, tY, D.k1, _, rfl, _, _, _, rfl, tY, D.k2, _, rfl, _, _, _, rfl, tY, D.k3, sz (by simp), fun l1 n1 => ?_⟩
  refine ⟨_, rfl, _, rfl, _, _, _, rfl, tY, D.k4, _, rfl, _, _, _, rfl, tY, D.k5, _, rfl, _, _, _, rfl, tY, D.k6, _, rfl, _, _, _, rfl, tY, D.k7, sz (by simp), fun l2 n2 => ?_⟩
  have s1 := (Same.refl H).new (o := HO.lst [V.bl (i == 0), V.bl (i == 1), V.bl (i == 2), V.bl (i == 3)]) n1
  have s2 := s1.new (o := HO.lst [V.bl (i == 4), V.bl (i == 5), V.bl (i == 6), V.bl (i == 7)]) n2
  refine ⟨l1, l2, _, _, rfl, rfl, kept upd_same n2, upd_same, sz (by simp), fun l3 n3 => ?_⟩
  have s3 := s2.new (o := HO.lst ([V.bl (i == 0), V.bl (i == 1), V.bl (i == 2), V.bl (i == 3)] ++ [V.bl (i == 4), V.bl (i == 5), V.bl (i == 6), V.bl (i == 7)])) n3
  refine ⟨_, rfl, _, rfl, _, _, _, rfl, tY, D.k8, _, rfl, _, _, _, rfl, tY, D.k9, sz (by simp), fun l4 n4 => ?_⟩
  have s4 := s3.new (o := HO.lst [V.bl (i == 8), V.bl (i == 9)]) n4
  refine ⟨l3, l4, _, _, rfl, rfl, kept upd_same n4, upd_same, sz (by simp), fun l5 n5 => ?_⟩
  have s5 := s4.new (o := HO.lst (([V.bl (i == 0), V.bl (i == 1), V.bl (i == 2), V.bl (i == 3)] ++ [V.bl (i == 4), V.bl (i == 5), V.bl (i == 6), V.bl (i == 7)]) ++ [V.bl (i == 8), V.bl (i == 9)])) n5
  have e5 : (upd (upd (upd (upd (upd H l1 (.lst [V.bl (i == 0), V.bl (i == 1), V.bl (i == 2), V.bl (i == 3)])) l2 (.lst [V.bl (i == 4), V.bl (i == 5), V.bl (i == 6), V.bl (i == 7)])) l3
      (.lst ([V.bl (i == 0), V.bl (i == 1), V.bl (i == 2), V.bl (i == 3)] ++ [V.bl (i == 4), V.bl (i == 5), V.bl (i == 6), V.bl (i == 7)]))) l4 (.lst [V.bl (i == 8), V.bl (i == 9)])) l5
      (.lst (([V.bl (i == 0), V.bl (i == 1), V.bl (i == 2), V.bl (i == 3)] ++ [V.bl (i == 4), V.bl (i == 5), V.bl (i == 6), V.bl (i == 7)]) ++ [V.bl (i == 8), V.bl (i == 9)]))) l5 =
      some (.lst ((List.range 10).map fun k => V.bl (i == k))) := upd_same
  generalize (upd (upd (upd (upd (upd H l1 (.lst [V.bl (i == 0), V.bl (i == 1), V.bl (i == 2), V.bl (i == 3)])) l2 (.lst [V.bl (i == 4), V.bl (i == 5), V.bl (i == 6), V.bl (i == 7)])) l3
      (.lst ([V.bl (i == 0), V.bl (i == 1), V.bl (i == 2), V.bl (i == 3)] ++ [V.bl (i == 4), V.bl (i == 5), V.bl (i == 6), V.bl (i == 7)]))) l4 (.lst [V.bl (i == 8), V.bl (i == 9)])) l5
      (.lst (([V.bl (i == 0), V.bl (i == 1), V.bl (i == 2), V.bl (i == 3)] ++ [V.bl (i == 4), V.bl (i == 5), V.bl (i == 6), V.bl (i == 7)]) ++ [V.bl (i == 8), V.bl (i == 9)]))) = H5 at s5 e5 ⊢
  refine ⟨10, rfl, by decide, by decide, fun D0 nD => ?_⟩
  refine lc_range (lo := 0) (n := 10) (fun m H' => Same H5 H' ∧ H' D0 = some (.lst (vis ((List.range m).map fun k : Nat => (11 + (k : Int)) * (if (i == k) = true then 1 else 0))))) ?_ ?_ ?_
  · exact ⟨(Same.refl H5).new nD, upd_same⟩
  · rintro m H' hm ⟨s6, e6⟩
    have g : ((List.range 10).map fun k => V.bl (i == k))[m]? = some (V.bl (i == m)) := by
      rw [List.getElem?_map, List.getElem?_range hm]; rfl
    refine ⟨rfl, ?_⟩
    refine ⟨_, rfl, _, _, rfl, rfl, _, rfl, _, rfl, _, _, _, _, rfl, rfl, .of (s6 _ _ e5), at_of (by omega) g, .inr ⟨_, rfl, _, _, rfl, rfl, .inl ⟨by omega, by omega⟩, ?_⟩⟩
    refine ⟨_, e6, by simp; exact szl (by omega), s6.put nD, ?_⟩
    rw [upd_same, List.range_succ, List.map_append, ← vis_app]
    have e0 : (11 + (0 + (m : Int))) = 11 + (m : Int) := by omega
    simp only [e0, List.map_cons, List.map_nil]
  · rintro H' ⟨s6, e6⟩
    refine ⟨_, _, rfl, .of e6, ?_⟩
    have e7 := flagSum_eq hi
    unfold flagSum at e7
    rw [e7]
    exact q H' (s5.trans s6)

def sp__law_refusal (K : PySem.W.Frag) : Sp := fun vs H Q _ => ∃ (p : Addr) (ws : List (List Nat)) (n m : Int), vs = [.ref p, .int n, .int m] ∧ SqL K H p (vts ws) ∧ Bw ws ∧ Wb n ∧
  (n < 1 → ∀ H', Same H H' → Q (.int 11) H') ∧ (1 ≤ n → n < (longest ws : Nat) → ∀ H', Same H H' → Q (.int 12) H') ∧
  (Ft ws n → ∀ qs, Qk ws n 0 qs → (m < (qs.length : Nat) ∨ (ws.length : Int) < m) ∧ (m < (qs.length : Nat) → ∀ H', Same H H' → Q (.int 15) H') ∧ ((qs.length : Int) ≤ m → (ws.length : Int) < m → ∀ H', Same H H' → Q (.int 16) H'))
theorem ok__law_refusal {ea : EA} (A : At K mg "_law_refusal" ["_law_row", "_law_width", "_law_many"] st__law_refusal) (T : Bts mg) (X : Xs K mg ea)
    (G_starts_in : Ok P w K mg base (CXn P w) 5 "starts_in" ["words", "width", "many"] (sp_starts_in K ea)) (G__law_kind : Kinds P w K mg base ea 1 "_law_kind" "_law_e") :
    Ok P w K mg base CX0 6 "_law_refusal" ["_law_row", "_law_width", "_law_many"] (sp__law_refusal K) := by
  refine A.ok sc__law_refusal (fun vs H Q E h => ?_) (fun f cdv A outer s H vs Q E hr h => ?_)
  · obtain ⟨p, ws, n, m, rfl, _⟩ := h; rfl
  · obtain ⟨p, ws, n, m, rfl, hS, hw, hn, q1, q2, q3⟩ := h
    refine ⟨_, (C8.pss_cut (L2N.ps_try_as (i := 3) rfl rfl sc__law_refusal.nd rfl rfl ⟨rfl, by decide, .inl X.g_wrap⟩ takesN (fun W pn xe tk _ => (pss_one (ps_expr (pe_cdS G_starts_in (hr.mono (by decide)) (fun z => L2N.passAt tk z) (pa_cons (pv 0) (pa_cons (pv 1) (pa_cons (pv 2) pa_nil))))))) (fun a oe cls d pn hz hf => (pss_one (ps_ret (pe_kind G__law_kind hr (by decide) hz hf (pa_cons (pv 3) pa_nil))))))
      (pss_one (ps_ret pe_int))), ?_⟩
    refine ⟨fun _ _ => False, ?_, fun _ _ z => z.elim⟩
    refine ⟨_, rfl, _, rfl, _, rfl, p, ws, n, m, rfl, hS, hw, hn, fun z => ?_, fun z1 z2 => ?_, fun ft qs hq => ⟨fun z H' s' => ?_, fun z1 z2 H' s' => ?_⟩, fun ft k L H' o ks em hk hLs hkl hbc s' no eo => ?_⟩
    · refine ⟨true, (X.c (i := 0) (by decide)).2.1, fun _ a na => ?_, fun z => nomatch z⟩
      exact ⟨_, rfl, 0, by decide, rfl, rfl, rfl, fun H1 s1 => q1 z H1 s1⟩
    · refine ⟨true, (X.c (i := 1) (by decide)).2.1, fun _ a na => ?_, fun z => nomatch z⟩
      exact ⟨_, rfl, 1, by decide, rfl, rfl, rfl, fun H1 s1 => q2 z1 z2 H1 s1⟩
    · refine ⟨true, (X.c (i := 4) (by decide)).2.1, fun _ a na => ?_, fun z => nomatch z⟩
      exact ⟨_, rfl, 4, by decide, rfl, rfl, rfl, fun H1 s1 => (q3 ft qs hq).2.1 z H1 (s'.trans s1)⟩
    · refine ⟨true, (X.c (i := 5) (by decide)).2.1, fun _ a na => ?_, fun z => nomatch z⟩
      exact ⟨_, rfl, 5, by decide, rfl, rfl, rfl, fun H1 s1 => (q3 ft qs hq).2.2 z1 z2 H1 (s'.trans s1)⟩
    · -- no refusal cannot be: there are the quick starts
      obtain ⟨qs, hq⟩ := Ft.quick ft
      have := (q3 ft qs hq).1
      have := hq.least (Nat.le_refl 0) hbc.fc
      omega

/-- refs to lists of numbers, each of b at most -/
def Ilb (b : Nat) (H : Hp) (ts : List Addr) : Prop := ∀ t ∈ ts, ∃ xs : List Int, H t = some (.lst (vis xs)) ∧ xs.length ≤ b
theorem Ilb.same {b : Nat} {H H' : Hp} {ts : List Addr} (h : Ilb b H ts) (s : Same H H') : Ilb b H' ts := fun t ht => by obtain ⟨xs, e, l⟩ := h t ht; exact ⟨xs, s _ _ e, l⟩
theorem Ilb.put {b : Nat} {H : Hp} {ts : List Addr} {D : Addr} {o : HO} (h : Ilb b H ts) (n : ∀ t ∈ ts, t ≠ D) : Ilb b (upd H D o) ts := fun t ht => by obtain ⟨xs, e, l⟩ := h t ht; exact ⟨xs, by rw [upd_ne (n t ht)]; exact e, l⟩
theorem Ilb.app {c : Nat} {H : Hp} {a b : List Addr} (h : Ilb c H a) (g : Ilb c H b) : Ilb c H (a ++ b) := fun t ht => by
  rcases List.mem_append.mp ht with z | z
  · exact h t z
  · exact g t z
theorem Ilb.one {b : Nat} {H : Hp} {t : Addr} {xs : List Int} (e : H t = some (.lst (vis xs))) (l : xs.length ≤ b) : Ilb b H [t] := fun u hu => by rw [List.mem_singleton.mp hu]; exact ⟨xs, e, l⟩
theorem Ilb.up {a b : Nat} {H : Hp} {ts : List Addr} (h : Ilb a H ts) (l : a ≤ b) : Ilb b H ts := fun t ht => by obtain ⟨xs, e, k⟩ := h t ht; exact ⟨xs, e, by omega⟩
def sp__law_all : Sp := fun vs H Q _ => ∃ n : Nat, vs = [.int n] ∧ 1 ≤ n ∧ n ≤ 8 ∧ ∀ H' o ts, Same H H' → H o = none → H' o = some (.lst (ts.map V.ref)) → ts.length ≤ 1000 → Ilb 10000 H' ts → Q (.ref o) H'
theorem ok__law_all (A : At K mg "_law_all" ["_law_count"] st__law_all) (T : Bts mg) : Ok P w K mg base CX0 1 "_law_all" ["_law_count"] sp__law_all := by
  refine A.ok sc__law_all (fun vs H Q E h => ?_) (fun f cdv A outer s H vs Q E hr h => ?_)
  · obtain ⟨n, rfl, _⟩ := h; rfl
  · obtain ⟨n, rfl, n1, n8, q⟩ := h
    refine ⟨_, (pss_cons (ps_set (i := 1) sc__law_all.nd rfl (Or.inl rfl) (pe_lst (pa_cons (pe_lst (pa_cons pe_int pa_nil)) pa_nil)))
      (pss_cons (ps_for PassesOwn.never rfl (pi_range2 (by rfl) T.m_range (pa_cons pe_int (pa_cons (pv 0) pa_nil))) (pg_name (i := 2) sc__law_all.nd rfl (Or.inr rfl))
      (pss_one (ps_set (i := 1) sc__law_all.nd rfl (Or.inl rfl) (pe_op op_cat (pv 1) (pe_lc (own := [("_law_one", 3)]) (g := gName 3) (tt := tYes) rfl sc__law_all.nd (pi_list (pv 1)) (blkOk_by (own := [("_law_one", 3)]) (N := N__law_all) (sc := defScope st__law_all) (by decide +kernel)) (fun _ _ _ _ _ => pg_name (i := 3) sc__law_all.nd rfl (Or.inl rfl)) (fun _ _ _ _ _ => pts_nil) (fun _ _ _ _ _ => (pe_op op_cat (pv 3) (pe_lst (pa_cons (pv 2) pa_nil)))))))))
      (pss_one (ps_ret (pv 1))))), ?_⟩
    refine ⟨sz (by simp), fun a na => ?_⟩
    have s1 := (Same.refl H).new (o := HO.lst [V.int 0]) na
    have ea : (upd H a (HO.lst [V.int 0])) a = some (.lst (vis [0])) := upd_same
    generalize upd H a (HO.lst [V.int 0]) = H1 at s1 ea ⊢
    refine ⟨sz (by simp), fun e ne => ?_⟩
    have s2 := s1.new (o := HO.lst [V.ref a]) ne
    have ea2 := kept ea ne (o := HO.lst [V.ref a])
    have ee : (upd H1 e (HO.lst [V.ref a])) e = some (.lst ([a].map V.ref)) := upd_same
    have ne' := s1.free ne
    generalize upd H1 e (HO.lst [V.ref a]) = H2 at s2 ea2 ee ⊢
    refine ⟨_, rfl, 1, (n : Int), rfl, ⟨by decide, by decide, by omega, by omega⟩, ?_⟩
    refine for_range (n := ((n : Int) - 1).toNat) (fun i σ H' => Same H H' ∧ ∃ (e : Addr) (ts : List Addr) (y z : Option V), σ = [some (.int (n : Nat)), some (.ref e), y, z] ∧ H e = none ∧ H' e = some (.lst (ts.map V.ref)) ∧ ts.length = 2 ^ i ∧ Ilb (i + 1) H' ts) ?_ ?_ ?_
    · exact ⟨s2, e, [a], none, none, rfl, ne', ee, rfl, Ilb.one ea2 (by simp)⟩
    · rintro i σ H' hi ⟨s3, e, ts, y, z, rfl, he, ee3, hl, hI⟩
      have hl2 : ts.length ≤ 128 := by
        rw [hl]
        exact Nat.pow_le_pow_right (by decide) (show i ≤ 7 by omega)
      refine ⟨_, rfl, _, rfl, e, rfl, ⟨_, .of ee3⟩, fun D hD => ?_⟩
      refine lc_list (xs := ts.map V.ref) (fun j H4 => Same H' H4 ∧ ∃ us : List Addr, H4 D = some (.lst (us.map V.ref)) ∧ us.length = j ∧ Ilb (i + 2) H4 us ∧ ∀ u ∈ us, u ≠ D) ?_ ?_ ?_ ?_
      · exact ⟨(Same.refl _).new hD, [], upd_same, rfl, fun _ h => (nomatch h), fun _ h => (nomatch h)⟩
      · rintro j H4 _ ⟨s4, _⟩; exact .of (s4 _ _ ee3)
      · rintro j x H4 hx ⟨s4, us, eD, ul, uI, uD⟩
        have hj : j < ts.length := by have := (List.getElem?_eq_some_iff.mp hx).1; simpa using this
        rw [flat_get (List.getElem?_eq_getElem hj)] at hx
        cases hx
        obtain ⟨xs, ex, xl⟩ := hI ts[j] (List.getElem_mem hj)
        refine ⟨rfl, ?_⟩
        refine ⟨_, rfl, _, rfl, sz (by simp), fun c nc => ?_⟩
        have s5 := s4.new (o := HO.lst [V.int (1 + (i : Int))]) nc
        have k5 := (Same.refl H4).new (o := HO.lst [V.int (1 + (i : Int))]) nc
        refine ⟨ts[j], c, vis xs, _, rfl, rfl, s5 _ _ ex, upd_same, sz (by rw [List.length_map]; simp; omega), fun u nu => ?_⟩
        have ev : vis xs ++ [V.int (1 + (i : Int))] = vis (xs ++ [1 + (i : Int)]) := (vis_app _ _).symm
        rw [ev]
        have s6 := s5.new (o := HO.lst (vis (xs ++ [1 + (i : Int)]))) nu
        have k6 := k5.new (o := HO.lst (vis (xs ++ [1 + (i : Int)]))) nu
        have eu := upd_same (H := upd H4 c (HO.lst [V.int (1 + (i : Int))])) (a := u) (o := HO.lst (vis (xs ++ [1 + (i : Int)])))
        have eD6 := k6 _ _ eD
        have uD6 : u ≠ D := fun z => by rw [z, k5 _ _ eD] at nu; cases nu
        generalize upd (upd H4 c (HO.lst [V.int (1 + (i : Int))])) u (HO.lst (vis (xs ++ [1 + (i : Int)]))) = H6 at s6 k6 eu eD6 ⊢
        have hall : ∀ t ∈ us ++ [u], t ≠ D := fun t ht => by
          rcases List.mem_append.mp ht with z | z
          · exact uD t z
          · rw [List.mem_singleton.mp z]; exact uD6
        refine ⟨_, eD6, by rw [List.length_map]; exact szl (by omega), s6.put hD, us ++ [u], by rw [upd_same, List.map_append]; rfl, by rw [List.length_append, ul]; rfl, ?_, hall⟩
        exact ((uI.same k6).app (Ilb.one (xs := xs ++ [1 + (i : Int)]) eu (by rw [List.length_append, List.length_singleton]; omega))).put hall
      rintro H4 ⟨s4, us, eD, ul, uI, uD⟩
      rw [List.length_map] at ul
      refine ⟨e, D, _, _, rfl, rfl, s4 _ _ ee3, eD, sz (by rw [List.length_map, List.length_map]; omega), fun g ng => ?_⟩
      have s34 := s3.trans s4
      refine ⟨s34.new ng, g, ts ++ us, _, z, rfl, s34.free ng, by rw [upd_same, List.map_append], by rw [List.length_append, ul, hl, Nat.pow_succ]; omega, ?_⟩
      exact (((hI.up (by omega)).same s4).app uI).same ((Same.refl H4).new ng)
    · rintro σ H' ⟨s3, e, ts, y, z, rfl, he, ee3, hl, hI⟩
      have hl2 : ts.length ≤ 128 := by
        rw [hl]
        exact Nat.pow_le_pow_right (by decide) (show ((n : Int) - 1).toNat ≤ 7 by omega)
      exact ⟨_, rfl, q H' e ts s3 he ee3 (by omega) (hI.up (by omega))⟩

def sp__law_near (K : PySem.W.Frag) : Sp := fun vs H Q _ => ∃ (o : Addr) (xs : List Int) (n : Nat), vs = [.ref o, .int n] ∧ SqL K H o (vis xs) ∧ xs.length ≤ 2000 ∧
  ∀ H' r ts, Same H H' → H r = none → H' r = some (.lst (ts.map V.ref)) → ts.length ≤ 10000 → Ilb 10000 H' ts → Q (.ref r) H'
theorem ok__law_near (A : At K mg "_law_near" ["_law_found", "_law_count"] st__law_near) (T : Bts mg) (G__law_all : Ok P w K mg base CX0 1 "_law_all" ["_law_count"] sp__law_all) :
    Ok P w K mg base CX0 2 "_law_near" ["_law_found", "_law_count"] (sp__law_near K) := by
  refine A.ok sc__law_near (fun vs H Q E h => ?_) (fun f cdv A outer s H vs Q E hr h => ?_)
  · obtain ⟨o, xs, n, rfl, _⟩ := h; rfl
  · obtain ⟨o, xs, n, rfl, hO, xl, q⟩ := h
    refine ⟨_, (pss_cons (ps_set (i := 2) sc__law_near.nd rfl (Or.inl rfl) (pe_lst pa_nil))
      (pss_cons (ps_for PassesOwn.never rfl (pi_range2 (by rfl) T.m_range (pa_cons pe_int (pa_cons (pe_callB (call_lenK K) (by rfl) T.m_len PySem.boot_len (pa_cons (pv 0) pa_nil)) pa_nil))) (pg_name (i := 3) sc__law_near.nd rfl (Or.inl rfl))
      (pss_cons (ps_expr (pe_bm PySem.F.plainAttrs_list PySem.F.slot_list_append PySem.F.type_list_append mt_append (pv 2) (pa_cons (pe_op op_cat (pe_op op_cat (pe_slice (sl_listK K) (pv 0) po_none (po_some (pv 3))) (pe_lst (pa_cons (pe_op op_sub (pe_ix (ix_listK K) (pv 0) (pv 3) (fun _ _ => rfl)) pe_int) pa_nil))) (pe_slice (sl_listK K) (pv 0) (po_some (pe_op op_add (pv 3) pe_int)) po_none)) pa_nil)))
      (pss_one (ps_expr (pe_bm PySem.F.plainAttrs_list PySem.F.slot_list_append PySem.F.type_list_append mt_append (pv 2) (pa_cons (pe_op op_cat (pe_op op_cat (pe_slice (sl_listK K) (pv 0) po_none (po_some (pv 3))) (pe_lst (pa_cons (pe_op op_add (pe_ix (ix_listK K) (pv 0) (pv 3) (fun _ _ => rfl)) pe_int) pa_nil))) (pe_slice (sl_listK K) (pv 0) (po_some (pe_op op_add (pv 3) pe_int)) po_none)) pa_nil))))))
      (C8.pss_cut (ps_if (pt_chain op_lt op_lt pe_int (pv 1) pe_int) (pss_one (ps_set (i := 2) sc__law_near.nd rfl (Or.inl rfl) (pe_op op_cat (pv 2) (pe_cd G__law_all (hr.mono (by decide)) pass0 (pa_cons (pv 1) pa_nil))))) pss_nil)
      (pss_one (ps_ret (pv 2)))))), ?_⟩
    refine ⟨sz (by simp), fun R hR => ?_⟩
    have s1 := (Same.refl H).new (o := HO.lst []) hR
    have eR : (upd H R (HO.lst [])) R = some (.lst (([] : List Addr).map V.ref)) := upd_same
    generalize upd H R (HO.lst []) = H1 at s1 eR ⊢
    have va : ∀ a b : List Int, vis a ++ vis b = vis (a ++ b) := fun a b => List.map_append.symm
    refine ⟨_, rfl, o, _, rfl, .inl (s1.seq hO), 1, (xs.length : Int), by rw [List.length_map], ⟨by decide, by decide, by omega, by omega⟩, ?_⟩
    refine for_range (n := ((xs.length : Int) - 1).toNat) (fun i σ H' => Same H H' ∧ ∃ (ts : List Addr) (z : Option V), σ = [some (.ref o), some (.int (n : Nat)), some (.ref R), z] ∧ H' R = some (.lst (ts.map V.ref)) ∧ ts.length = 2 * i ∧ Ilb 10000 H' ts ∧ ∀ t ∈ ts, t ≠ R) ?_ ?_ ?_
    · exact ⟨s1, [], none, rfl, eR, rfl, fun _ h => (nomatch h), fun _ h => (nomatch h)⟩
    · rintro i σ H2 hi ⟨s2, ts, z, rfl, eR2, hl, hI, hD⟩
      have hi1 : i + 1 < xs.length := by omega
      refine (show gName 3 (V.int (1 + (i : Int))) _ _ _ from ?_)
      rw [show (1 + (i : Int)) = ((i + 1 : Nat) : Int) by omega]
      have st : cutV (vis xs) none (some ((i + 1 : Nat) : Int)) = vis (xs.take (i + 1)) := cut_to V.int xs (i + 1)
      have sf : cutV (vis xs) (some ((i + 2 : Nat) : Int)) none = vis (xs.drop (i + 2)) := cut_from V.int xs (i + 2)
      have g1 : (vis xs)[i + 1]? = some (V.int xs[i + 1]) := flat_get (List.getElem?_eq_getElem hi1)
      refine ⟨_, rfl, .inl ⟨rfl, _, .of eR2⟩, _, rfl, _, rfl, ((i + 1 : Nat) : Int), rfl, o, _, rfl, s2.seq hO, fun a na => ?_⟩
      rw [st]
      have k1 := (Same.refl H2).new (o := HO.lst (vis (xs.take (i + 1)))) na
      have ea : (upd H2 a (HO.lst (vis (xs.take (i + 1))))) a = some (.lst (vis (xs.take (i + 1)))) := upd_same
      generalize upd H2 a (HO.lst (vis (xs.take (i + 1)))) = HA at k1 ea ⊢
      refine ⟨_, rfl, _, rfl, o, _, _, _, rfl, rfl, (s2.trans k1).seq hO, atI_nat g1, _, _, rfl, rfl, sz (by simp), fun b nb => ?_⟩
      have k2 := k1.new (o := HO.lst [V.int (xs[i + 1] - 1)]) nb
      have ea2 := kept ea nb (o := HO.lst [V.int (xs[i + 1] - 1)])
      have eb : (upd HA b (HO.lst [V.int (xs[i + 1] - 1)])) b = some (.lst (vis [xs[i + 1] - 1])) := upd_same
      generalize upd HA b (HO.lst [V.int (xs[i + 1] - 1)]) = HB at k2 ea2 eb ⊢
      refine ⟨a, b, _, _, rfl, rfl, ea2, eb, sz (by simp; omega), fun c nc => ?_⟩
      rw [va]
      have k3 := k2.new (o := HO.lst (vis (xs.take (i + 1) ++ [xs[i + 1] - 1]))) nc
      have ec : (upd HB c (HO.lst (vis (xs.take (i + 1) ++ [xs[i + 1] - 1])))) c = some (.lst (vis (xs.take (i + 1) ++ [xs[i + 1] - 1]))) := upd_same
      generalize upd HB c (HO.lst (vis (xs.take (i + 1) ++ [xs[i + 1] - 1]))) = HC at k3 ec ⊢
      refine ⟨_, rfl, _, rfl, _, _, rfl, rfl, ((i + 2 : Nat) : Int), rfl, o, _, rfl, (s2.trans k3).seq hO, fun d nd => ?_⟩
      rw [sf]
      have k4 := k3.new (o := HO.lst (vis (xs.drop (i + 2)))) nd
      have ec2 := kept ec nd (o := HO.lst (vis (xs.drop (i + 2))))
      have ed : (upd HC d (HO.lst (vis (xs.drop (i + 2))))) d = some (.lst (vis (xs.drop (i + 2)))) := upd_same
      generalize upd HC d (HO.lst (vis (xs.drop (i + 2)))) = HE at k4 ec2 ed ⊢
      refine ⟨c, d, _, _, rfl, rfl, ec2, ed, sz (by simp; omega), fun u nu => ?_⟩
      rw [va]
      have k5 := k4.new (o := HO.lst (vis (xs.take (i + 1) ++ [xs[i + 1] - 1] ++ xs.drop (i + 2)))) nu
      have eu : (upd HE u (HO.lst (vis (xs.take (i + 1) ++ [xs[i + 1] - 1] ++ xs.drop (i + 2))))) u = some (.lst (vis (xs.take (i + 1) ++ [xs[i + 1] - 1] ++ xs.drop (i + 2)))) := upd_same
      have uR : u ≠ R := fun z => by rw [z, k4 _ _ eR2] at nu; cases nu
      generalize upd HE u (HO.lst (vis (xs.take (i + 1) ++ [xs[i + 1] - 1] ++ xs.drop (i + 2)))) = HF at k5 eu ⊢
      have hall2 : ∀ t ∈ ts ++ [u], t ≠ R := fun t ht => by
        rcases List.mem_append.mp ht with z | z
        · exact hD t z
        · rw [List.mem_singleton.mp z]; exact uR
      have hI3 := ((hI.same k5).app (Ilb.one eu (by simp; omega))).put (o := HO.lst (ts.map V.ref ++ [V.ref u])) hall2
      have s3 := (s2.trans k5).put (o := HO.lst (ts.map V.ref ++ [V.ref u])) hR
      have eR3 : (upd HF R (HO.lst (ts.map V.ref ++ [V.ref u]))) R = some (.lst ((ts ++ [u]).map V.ref)) := by rw [upd_same, List.map_append]; rfl
      refine ⟨R, _, _, rfl, rfl, k5 _ _ eR2, by rw [List.length_map]; exact szl (by omega), ?_⟩
      generalize upd HF R (HO.lst (ts.map V.ref ++ [V.ref u])) = H3 at s3 eR3 hI3 ⊢
      have hD3 := hall2
      obtain ⟨ts2, hts2⟩ : ∃ ts2, ts ++ [u] = ts2 := ⟨_, rfl⟩
      have hl2 : ts2.length = 2 * i + 1 := by rw [← hts2, List.length_append, hl]; rfl
      rw [hts2] at hI3 eR3 hD3
      clear hall2 eu uR ed ec2 ec ea2 eb ea k1 k2 k3 k4 k5 na nb nc nd nu
      refine ⟨_, rfl, .inl ⟨rfl, _, .of eR3⟩, _, rfl, _, rfl, ((i + 1 : Nat) : Int), rfl, o, _, rfl, s3.seq hO, fun a na => ?_⟩
      rw [st]
      have k1 := (Same.refl H3).new (o := HO.lst (vis (xs.take (i + 1)))) na
      have ea : (upd H3 a (HO.lst (vis (xs.take (i + 1))))) a = some (.lst (vis (xs.take (i + 1)))) := upd_same
      generalize upd H3 a (HO.lst (vis (xs.take (i + 1)))) = HA at k1 ea ⊢
      refine ⟨_, rfl, _, rfl, o, _, _, _, rfl, rfl, (s3.trans k1).seq hO, atI_nat g1, _, _, rfl, rfl, sz (by simp), fun b nb => ?_⟩
      have k2 := k1.new (o := HO.lst [V.int (xs[i + 1] + 1)]) nb
      have ea2 := kept ea nb (o := HO.lst [V.int (xs[i + 1] + 1)])
      have eb : (upd HA b (HO.lst [V.int (xs[i + 1] + 1)])) b = some (.lst (vis [xs[i + 1] + 1])) := upd_same
      generalize upd HA b (HO.lst [V.int (xs[i + 1] + 1)]) = HB at k2 ea2 eb ⊢
      refine ⟨a, b, _, _, rfl, rfl, ea2, eb, sz (by simp; omega), fun c nc => ?_⟩
      rw [va]
      have k3 := k2.new (o := HO.lst (vis (xs.take (i + 1) ++ [xs[i + 1] + 1]))) nc
      have ec : (upd HB c (HO.lst (vis (xs.take (i + 1) ++ [xs[i + 1] + 1])))) c = some (.lst (vis (xs.take (i + 1) ++ [xs[i + 1] + 1]))) := upd_same
      generalize upd HB c (HO.lst (vis (xs.take (i + 1) ++ [xs[i + 1] + 1]))) = HC at k3 ec ⊢
      refine ⟨_, rfl, _, rfl, _, _, rfl, rfl, ((i + 2 : Nat) : Int), rfl, o, _, rfl, (s3.trans k3).seq hO, fun d nd => ?_⟩
      rw [sf]
      have k4 := k3.new (o := HO.lst (vis (xs.drop (i + 2)))) nd
      have ec2 := kept ec nd (o := HO.lst (vis (xs.drop (i + 2))))
      have ed : (upd HC d (HO.lst (vis (xs.drop (i + 2))))) d = some (.lst (vis (xs.drop (i + 2)))) := upd_same
      generalize upd HC d (HO.lst (vis (xs.drop (i + 2)))) = HE at k4 ec2 ed ⊢
      refine ⟨c, d, _, _, rfl, rfl, ec2, ed, sz (by simp; omega), fun u nu => ?_⟩
      rw [va]
      have k5 := k4.new (o := HO.lst (vis (xs.take (i + 1) ++ [xs[i + 1] + 1] ++ xs.drop (i + 2)))) nu
      have eu : (upd HE u (HO.lst (vis (xs.take (i + 1) ++ [xs[i + 1] + 1] ++ xs.drop (i + 2))))) u = some (.lst (vis (xs.take (i + 1) ++ [xs[i + 1] + 1] ++ xs.drop (i + 2)))) := upd_same
      have uR : u ≠ R := fun z => by rw [z, k4 _ _ eR3] at nu; cases nu
      generalize upd HE u (HO.lst (vis (xs.take (i + 1) ++ [xs[i + 1] + 1] ++ xs.drop (i + 2)))) = HF at k5 eu ⊢
      have hall3 : ∀ t ∈ ts2 ++ [u], t ≠ R := fun t ht => by
        rcases List.mem_append.mp ht with z | z
        · exact hD3 t z
        · rw [List.mem_singleton.mp z]; exact uR
      have hI4 := ((hI3.same k5).app (Ilb.one eu (by simp; omega))).put (o := HO.lst (ts2.map V.ref ++ [V.ref u])) hall3
      have s4 := (s3.trans k5).put (o := HO.lst (ts2.map V.ref ++ [V.ref u])) hR
      have eR4 : (upd HF R (HO.lst (ts2.map V.ref ++ [V.ref u]))) R = some (.lst ((ts2 ++ [u]).map V.ref)) := by rw [upd_same, List.map_append]; rfl
      refine ⟨R, _, _, rfl, rfl, k5 _ _ eR3, by rw [List.length_map]; exact szl (by omega), ?_⟩
      generalize upd HF R (HO.lst (ts2.map V.ref ++ [V.ref u])) = H4 at s4 eR4 hI4 ⊢
      exact ⟨s4, ts2 ++ [u], _, rfl, eR4, by rw [List.length_append, hl2]; simp; omega, hI4, hall3⟩
    · rintro σ H2 ⟨s2, ts, z, rfl, eR2, hl, hI, hD⟩
      refine ⟨fun σ H3 => Same H2 H3 ∧ ∃ (r : Addr) (ts : List Addr) (z : Option V), σ = [some (.ref o), some (.int (n : Nat)), some (.ref r), z] ∧ H r = none ∧ H3 r = some (.lst (ts.map V.ref)) ∧ ts.length ≤ 10000 ∧ Ilb 10000 H3 ts, ?_, ?_⟩
      · by_cases hn : 0 < n
        · refine ⟨_, rfl, _, _, rfl, rfl, _, rfl, ?_⟩
          rw [decide_eq_true (show (0 : Int) < (n : Int) by omega)]
          refine ⟨_, _, rfl, rfl, _, rfl, tst (c := n < 8) (by simp only [decide_eq_decide]; omega) (fun h2 => ?_) (fun h2 => ?_)⟩
          · refine ⟨_, rfl, _, rfl, n, rfl, hn, by omega, fun H3 e us s3 ne ee ul uI => ?_⟩
            refine ⟨R, e, _, _, rfl, rfl, s3 _ _ eR2, ee, sz (by rw [List.length_map, List.length_map]; omega), fun g ng => ?_⟩
            exact ⟨s3.new ng, g, ts ++ us, z, rfl, (s2.trans s3).free ng, by rw [upd_same, List.map_append], by rw [List.length_append]; omega, ((hI.same s3).app uI).same ((Same.refl H3).new ng)⟩
          · exact ⟨Same.refl _, R, ts, z, rfl, hR, eR2, by omega, hI⟩
        · refine ⟨_, rfl, _, _, rfl, rfl, _, rfl, ?_⟩
          rw [decide_eq_false (show ¬ (0 : Int) < (n : Int) by omega)]
          refine iteF ?_
          exact ⟨_, rfl, iteF ⟨Same.refl _, R, ts, z, rfl, hR, eR2, by omega, hI⟩⟩
      · rintro σ H3 ⟨s3, r, ts, z, rfl, nr, er, l, I⟩
        exact ⟨_, rfl, q H3 r ts (s2.trans s3) nr er l I⟩

def sp__law_beaten (K : PySem.W.Frag) : Sp := fun vs H Q _ => ∃ (p o t : Addr) (ws : List (List Nat)) (n : Int) (ks : List Nat) (xs : List Int), vs = [.ref p, .int n, .ref o, .ref t] ∧ SqL K H p (vts ws) ∧ H o = some (.lst (vis (toI ks))) ∧ H t = some (.lst (vis xs)) ∧ Bw ws ∧ Wb n ∧ ks.length ≤ 1000000 ∧ xs.length ≤ 1000000 ∧
  (∀ os, xs = toI os → Fc ws n 0 os → os.length = ks.length → sm ws n ks ≤ sm ws n os ∧ (sm ws n os = sm ws n ks → lexLt (toI ks) (toI os) = false)) ∧ ∀ H', Same H H' → Q (.bl false) H'
theorem ok__law_beaten (A : At K mg "_law_beaten" ["_law_row", "_law_width", "_law_found", "_law_others"] st__law_beaten) (T : Bts mg)
    (G__law_sum : Ok P w K mg base CX0 3 "_law_sum" ["_law_row", "_law_width", "_law_found"] (sp__law_sum K))
    (G__law_are_starts : Ok P w K mg base CX0 3 "_law_are_starts" ["_law_row", "_law_width", "_law_found"] (sp__law_are_starts K)) :
    Ok P w K mg base CX0 4 "_law_beaten" ["_law_row", "_law_width", "_law_found", "_law_others"] (sp__law_beaten K) := by
  refine A.ok sc__law_beaten (fun vs H Q E h => ?_) (fun f cdv A outer s H vs Q E hr h => ?_)
  · obtain ⟨p, o, t, ws, n, ks, xs, rfl, _⟩ := h; rfl
  · obtain ⟨p, o, t, ws, n, ks, xs, rfl, hS, eo, et, hw, hn, kl, xl, hb, q⟩ := h
    refine ⟨_, (pss_cons (ps_if (PW.pt (pw_or (pt_cmpR op_ne (pe_callB (call_lenK K) (by rfl) T.m_len PySem.boot_len (pa_cons (pv 3) pa_nil)) (pe_callB (call_lenK K) (by rfl) T.m_len PySem.boot_len (pa_cons (pv 2) pa_nil)) (nomark _)) (pw_or1 (pt_not (pt_val (pe_cd G__law_are_starts (hr.mono (by decide)) pass0 (pa_cons (pv 0) (pa_cons (pv 1) (pa_cons (pv 3) pa_nil))))))))) (pss_one (ps_ret pe_bl)) pss_nil)
      (pss_cons (ps_set (i := 4) sc__law_beaten.nd rfl (Or.inl rfl) (pe_cd G__law_sum (hr.mono (by decide)) pass0 (pa_cons (pv 0) (pa_cons (pv 1) (pa_cons (pv 2) pa_nil)))))
      (pss_cons (ps_set (i := 5) sc__law_beaten.nd rfl (Or.inl rfl) (pe_cd G__law_sum (hr.mono (by decide)) pass0 (pa_cons (pv 0) (pa_cons (pv 1) (pa_cons (pv 3) pa_nil)))))
      (pss_one (ps_ret (pe_or (pe_cmpR op_lt (pv 5) (pv 4) (nomark _)) (pe_one (pe_and (pe_cmpR op_eq (pv 4) (pv 5) (nomark _)) (pe_one (pe_cmpR (op_ltL hr) (pv 2) (pv 3) (nomark _))))))))))), ?_⟩
    refine ⟨_, rfl, t, _, rfl, .inl (.of et), _, rfl, o, _, rfl, .inl (.of eo), rfl, _, rfl, ?_⟩
    by_cases hlen : xs.length = ks.length
    · rw [show (!decide (V.int (((vis xs).length : Nat) : Int) = V.int (((vis (toI ks)).length : Nat) : Int))) = false by
        rw [dec_vi, List.length_map, List.length_map, toI_length, hlen]; simp]
      refine iteF ?_
      refine ⟨_, rfl, _, rfl, _, rfl, p, t, ws, n, xs, rfl, hS, et, hw, xl, fun H1 b s1 hbb => ⟨_, rfl, ?_⟩⟩
      cases b with
      | false => exact iteT (q _ s1)
      | true =>
        refine iteF ?_
        obtain ⟨os, rfl, hf⟩ := hbb.mp rfl
        rw [toI_length] at hlen xl
        obtain ⟨h1, h2⟩ := hb os rfl hf hlen
        refine ⟨_, rfl, _, rfl, _, rfl, p, o, ws, n, ks, rfl, s1.seq hS, .of (s1 _ _ eo), hw, hn, kl, fun H2 s2 => ?_⟩
        have s12 := s1.trans s2
        refine ⟨_, rfl, _, rfl, _, rfl, p, t, ws, n, os, rfl, s12.seq hS, .of (s12 _ _ et), hw, hn, xl, fun H3 s3 => ?_⟩
        have s13 := s12.trans s3
        refine ⟨_, rfl, _, rfl, _, _, rfl, rfl, _, rfl, ?_⟩
        rw [decide_eq_false (show ¬ sm ws n os < sm ws n ks by omega)]
        refine iteF ?_
        refine ⟨_, rfl, _, rfl, rfl, _, rfl, ?_⟩
        by_cases h3 : sm ws n ks = sm ws n os
        · rw [dec_vi, decide_eq_true h3]
          refine iteT ?_
          refine ⟨_, rfl, _, rfl, o, t, toI ks, toI os, rfl, rfl, .of (s13 _ _ eo), .of (s13 _ _ et), ?_⟩
          rw [h2 h3.symm]
          exact q _ s13
        · rw [dec_vi, decide_eq_false h3]
          exact iteF (q _ s13)
    · rw [show (!decide (V.int (((vis xs).length : Nat) : Int) = V.int (((vis (toI ks)).length : Nat) : Int))) = true by
        rw [dec_vi, List.length_map, List.length_map, toI_length, decide_eq_false (by omega)]; rfl]
      refine iteT ?_
      exact iteT (q _ (Same.refl H))

def sp__law_many_by : Sp := fun vs H Q _ => ∃ (c : Int) (k n : Nat) (g : Bool), vs = [.int c, .int k, .int n, .bl g] ∧ k ≤ n ∧ ∀ H' m, Same H H' → Q (.int m) H'
theorem ok__law_many_by (A : At K mg "_law_many_by" ["_law_cell", "_law_quick", "_law_count", "_law_great"] st__law_many_by) (T : Bts mg) : Ok P w K mg base CX0 1 "_law_many_by" ["_law_cell", "_law_quick", "_law_count", "_law_great"] sp__law_many_by := by
  refine A.ok sc__law_many_by (fun vs H Q E h => ?_) (fun f cdv A outer s H vs Q E hr h => ?_)
  · obtain ⟨c, k, n, g, rfl, _⟩ := h; rfl
  · obtain ⟨c, k, n, g, rfl, hk, q⟩ := h
    refine ⟨_, (pss_cons (ps_if (pt_cmpR op_eq (pe_op op_mod (pv 0) pe_int) pe_int (nomark _)) (pss_one (ps_ret (pe_ix (ix_listK K) (pe_lst (pa_cons (pe_un un_neg pe_int) (pa_cons (pe_op op_powW pe_int pe_int) pa_nil))) (pe_op op_mod (pe_op op_fdiv (pv 0) pe_int) pe_int) (fun _ _ => rfl)))) pss_nil)
      (pss_cons (ps_if (pt_val (pv 3)) (pss_one (ps_ret (pe_op op_sub (pe_op op_add (pv 1) (pe_op op_mod (pe_op op_fdiv (pv 0) pe_int) pe_int)) pe_int))) pss_nil)
      (pss_one (ps_ret (pe_op op_add (pe_op op_sub (pv 1) pe_int) (pe_op op_mod (pe_op op_fdiv (pv 0) pe_int) (pe_op op_add (pe_op op_sub (pv 2) (pv 1)) pe_int))))))), ?_⟩
    refine ⟨_, rfl, _, _, rfl, rfl, (show (0 : Int) < 9 by decide), rfl, _, rfl, tst (c := c % 9 = 1) dec_vi (fun n1 => ?_) (fun n1 => ?_)⟩
    · refine ⟨_, rfl, _, _, rfl, rfl, by decide, by decide +kernel, sz (by simp), fun l nl => ?_⟩
      obtain ⟨j, hj⟩ : ∃ j : Nat, c / 9 % 2 = (j : Int) := ⟨(c / 9 % 2).toNat, by omega⟩
      have hv : ∃ v : Int, ([V.int (-2), V.int (10 ^ (30 : Int).toNat)])[j]? = some (.int v) := by
        rcases (show j = 0 ∨ j = 1 by omega) with z | z <;> subst z
        · exact ⟨_, rfl⟩
        · exact ⟨_, rfl⟩
      obtain ⟨v, hv⟩ := hv
      exact ⟨_, rfl, _, _, rfl, rfl, ⟨by decide, by decide⟩, _, _, rfl, rfl, (show (0 : Int) < 2 by decide), l, _, _, _, rfl, rfl, .of upd_same, at_of hj hv, q _ _ ((Same.refl H).new nl)⟩
    refine ⟨_, rfl, _, rfl, ?_⟩
    cases g with
    | true => exact iteT ⟨_, rfl, _, rfl, _, _, rfl, rfl, ⟨by decide, by decide⟩, _, _, rfl, rfl, (show (0 : Int) < 5 by decide), _, _, rfl, rfl, _, _, rfl, rfl, q _ _ (Same.refl H)⟩
    | false => exact iteF ⟨_, rfl, _, _, rfl, rfl, _, rfl, _, _, rfl, rfl, ⟨by decide, by decide⟩, _, rfl, _, rfl, _, _, rfl, rfl, _, _, rfl, rfl, _, _, rfl, rfl, (show (0 : Int) < (n : Int) - (k : Int) + 3 by omega), _, _, rfl, rfl, q _ _ (Same.refl H)⟩

def sp_law (K : PySem.W.Frag) : Sp := fun vs H Q _ => ∃ (a : Addr) (ns : List Int), vs = [.ref a] ∧ SqL K H a (vis ns) ∧ ns.length ≤ 63 ∧ ∀ H', Q (.bl true) H'
theorem body_law {ea : EA} (T : Bts mg) (X : Xs K mg ea) (G__law_cell_at : Ok P w K mg base CX0 1 "_law_cell_at" ["_law_script", "_law_k"] (sp__law_cell_at K))
    (G__law_words_by : Ok P w K mg base CX0 3 "_law_words_by" ["_law_cells", "_law_more"] (sp__law_words_by K))
    (G__law_width_by : Ok P w K mg base CX0 2 "_law_width_by" ["_law_cell", "_law_row"] (sp__law_width_by K))
    (G__law_longest : Ok P w K mg base CX0 1 "_law_longest" ["_law_row"] (sp__law_longest K))
    (G__law_size : Ok P w K mg base CX0 1 "_law_size" ["_law_row", "_law_begin", "_law_end"] (sp__law_size K))
    (G__law_are_starts : Ok P w K mg base CX0 3 "_law_are_starts" ["_law_row", "_law_width", "_law_found"] (sp__law_are_starts K))
    (G__law_others_by : Ok P w K mg base CX0 2 "_law_others_by" ["_law_cells", "_law_row", "_law_width"] (sp__law_others_by K))
    (G__law_many_by : Ok P w K mg base CX0 1 "_law_many_by" ["_law_cell", "_law_quick", "_law_count", "_law_great"] sp__law_many_by)
    (G__law_in_lines : Ok P w K mg base CX0 3 "_law_in_lines" ["_law_cells", "_law_row", "_law_width", "_law_many"] (sp__law_in_lines K))
    (G__law_near : Ok P w K mg base CX0 2 "_law_near" ["_law_found", "_law_count"] (sp__law_near K))
    (G__law_beaten : Ok P w K mg base CX0 4 "_law_beaten" ["_law_row", "_law_width", "_law_found", "_law_others"] (sp__law_beaten K))
    (G__law_refusal : Ok P w K mg base CX0 6 "_law_refusal" ["_law_row", "_law_width", "_law_many"] (sp__law_refusal K))
    (G_starts_in : Ok P w K mg base (CXn P w) 5 "starts_in" ["words", "width", "many"] (sp_starts_in K ea))
    (f : Addr) (cdv : Value) (A : Around) (outer : List Env) (s : Shared) (H : Hp) (vs : List V) (Q : VK) (E : XK)
    (hr : Room 6 (A.deeper (envOfC "law" (defScope st_law) s.heap.objs.size f cdv))) (h : sp_law K vs H Q E) :
    ∃ t, PSs (cxOf CX0 P w K mg base N_law "law" (defScope st_law) f cdv A outer s H E).nox (defBody st_law) t ∧ t { nx := fun _ H' => Q .non H', rt := Q } (start N_law vs) H := by
  obtain ⟨a, ns, rfl, hS, hl, q⟩ := h
  refine ⟨_, (pss_cons (ps_set (i := 1) sc_law.nd rfl (Or.inl rfl) (pe_op op_add pe_int (pe_op op_fdiv (pe_op op_mul (pe_callB (call_max2 rfl) (by rfl) T.m_max (by decide +kernel) (pa_cons pe_int (pa_cons (pe_op op_sub (pe_callB (call_lenK K) (by rfl) T.m_len PySem.boot_len (pa_cons (pv 0) pa_nil)) pe_int) pa_nil))) (pe_op op_add pe_int (pe_op op_mod (pe_cd G__law_cell_at (hr.mono (by decide)) pass0 (pa_cons (pv 0) (pa_cons pe_int pa_nil))) pe_int))) pe_int)))
      (pss_cons (ps_set (i := 2) sc_law.nd rfl (Or.inl rfl) (pe_cd G__law_cell_at (hr.mono (by decide)) pass0 (pa_cons (pv 0) (pa_cons pe_int pa_nil))))
      (pss_cons (ps_set (i := 3) sc_law.nd rfl (Or.inl rfl) (pe_cmpR op_eq (pe_op op_mod (pe_op op_fdiv (pv 2) pe_int) pe_int) pe_int (nomark _)))
      (pss_cons (ps_set (i := 4) sc_law.nd rfl (Or.inl rfl) (pe_slice (sl_listK K) (pe_cd G__law_words_by (hr.mono (by decide)) pass0 (pa_cons (pe_slice (sl_listK K) (pv 0) (po_some pe_int) (po_some (pv 1))) (pa_cons (pv 2) pa_nil))) po_none (po_some (pe_op op_add pe_int (pe_op op_mul pe_int (pe_callTy call_int1 (by rfl) T.m_int (by decide +kernel) (pa_cons (pv 3) pa_nil)))))))
      (C8.pss_cut (ps_if (pt_cmpR op_eq (pe_op op_mod (pe_op op_fdiv (pv 2) pe_int) pe_int) pe_int (nomark _)) (pss_one (ps_set (i := 4) sc_law.nd rfl (Or.inl rfl) (pe_slice (sl_listK K) (pv 4) po_none (po_some pe_int)))) pss_nil)
      (pss_cons (ps_set (i := 5) sc_law.nd rfl (Or.inl rfl) (pe_cd G__law_width_by (hr.mono (by decide)) pass0 (pa_cons (pe_cd G__law_cell_at (hr.mono (by decide)) pass0 (pa_cons (pv 0) (pa_cons pe_int pa_nil))) (pa_cons (pv 4) pa_nil))))
      (C8.pss_cut (ps_if (pt_cmpR op_eq (pe_op op_mod (pv 2) pe_int) pe_int (nomark _)) (pss_cons (ps_set (i := 4) sc_law.nd rfl (Or.inl rfl) (pe_slice (sl_listK K) (pe_cd G__law_words_by (hr.mono (by decide)) pass0 (pa_cons (pe_lst pa_nil) (pa_cons (pv 2) pa_nil))) po_none (po_some pe_int)))
      (pss_cons (ps_set (i := 3) sc_law.nd rfl (Or.inl rfl) pe_bl)
      (pss_one (ps_set (i := 5) sc_law.nd rfl (Or.inl rfl) (pe_op op_add pe_int (pe_op op_fdiv (pe_cd G__law_size (hr.mono (by decide)) pass0 (pa_cons (pv 4) (pa_cons pe_int (pa_cons (pe_callB (call_lenK K) (by rfl) T.m_len PySem.boot_len (pa_cons (pv 4) pa_nil)) pa_nil)))) (pe_op op_add pe_int (pe_op op_mod (pe_cd G__law_cell_at (hr.mono (by decide)) pass0 (pa_cons (pv 0) (pa_cons pe_int pa_nil))) pe_int)))))))) pss_nil)
      (C8.pss_cut (ps_if (PW.pt (pw_and (pt_val (pv 3)) (pw_and1 (pt_cmpR op_eq (pe_op op_mod (pe_op op_fdiv (pe_cd G__law_cell_at (hr.mono (by decide)) pass0 (pa_cons (pv 0) (pa_cons pe_int pa_nil))) pe_int) pe_int) pe_int (nomark _))))) (pss_cons (ps_set (i := 4) sc_law.nd rfl (Or.inl rfl) (pe_slice (sl_listK K) (pv 4) po_none (po_some pe_int)))
      (pss_one (ps_set (i := 3) sc_law.nd rfl (Or.inl rfl) pe_bl))) pss_nil)
      (pss_cons (ps_if (PW.pt (pw_or (pt_cmpR op_lt (pv 5) pe_int (nomark _)) (pw_or1 (pt_cmpR op_gt (pe_cd G__law_longest (hr.mono (by decide)) pass0 (pa_cons (pv 4) pa_nil)) (pv 5) (nomark _))))) (pss_one (ps_ret (pe_cmpR op_eq (pe_cd G__law_refusal (hr.mono (by decide)) pass0 (pa_cons (pe_callTy call_list_of (by rfl) T.m_list (by decide +kernel) (pa_cons (pv 4) pa_nil)) (pa_cons (pv 5) (pa_cons (pe_op op_sub (pe_op op_mod (pe_cd G__law_cell_at (hr.mono (by decide)) pass0 (pa_cons (pv 0) (pa_cons pe_int pa_nil))) pe_int) pe_int) pa_nil)))) (pe_op op_add pe_int (pe_callTy call_int1 (by rfl) T.m_int (by decide +kernel) (pa_cons (pe_cmpR op_ge (pv 5) pe_int (nomark _)) pa_nil))) (nomark _)))) pss_nil)
      (pss_cons (ps_set (i := 6) sc_law.nd rfl (Or.inl rfl) (pe_callB (call_lenK K) (by rfl) T.m_len PySem.boot_len (pa_cons (pe_cd G__law_others_by (hr.mono (by decide)) pass0 (pa_cons (pe_lst pa_nil) (pa_cons (pv 4) (pa_cons (pv 5) pa_nil)))) pa_nil)))
      (pss_cons (ps_set (i := 7) sc_law.nd rfl (Or.inl rfl) (pe_cd G__law_many_by (hr.mono (by decide)) pass0 (pa_cons (pe_cd G__law_cell_at (hr.mono (by decide)) pass0 (pa_cons (pv 0) (pa_cons pe_int pa_nil))) (pa_cons (pv 6) (pa_cons (pe_callB (call_lenK K) (by rfl) T.m_len PySem.boot_len (pa_cons (pv 4) pa_nil)) (pa_cons (pv 3) pa_nil))))))
      (pss_cons (ps_set (i := 8) sc_law.nd rfl (Or.inl rfl) (pe_callTy call_list_of (by rfl) T.m_list (by decide +kernel) (pa_cons (pv 4) pa_nil)))
      (pss_cons (ps_if (PW.pt (pw_or (pt_cmpR op_lt (pv 7) (pv 6) (nomark _)) (pw_or1 (pt_cmpR op_gt (pv 7) (pe_callB (call_lenK K) (by rfl) T.m_len PySem.boot_len (pa_cons (pv 4) pa_nil)) (nomark _))))) (pss_one (ps_ret (pe_and (pe_cmpR op_eq (pe_cd G__law_refusal (hr.mono (by decide)) pass0 (pa_cons (pv 8) (pa_cons (pv 5) (pa_cons (pv 7) pa_nil)))) (pe_op op_add pe_int (pe_callTy call_int1 (by rfl) T.m_int (by decide +kernel) (pa_cons (pe_cmpR op_gt (pv 7) (pe_callB (call_lenK K) (by rfl) T.m_len PySem.boot_len (pa_cons (pv 4) pa_nil)) (nomark _)) pa_nil))) (nomark _)) (pe_one (pe_cmpR (op_eqL hr) (pv 8) (pv 4) (nomark _)))))) pss_nil)
      (pss_cons (ps_set (i := 9) sc_law.nd rfl (Or.inl rfl) (pe_cd G_starts_in (hr.mono (by decide)) passN (pa_cons (pv 8) (pa_cons (pv 5) (pa_cons (pv 7) pa_nil)))))
      (pss_cons (ps_if (PW.pt (pw_or (pt_cmpR (op_neL hr) (pv 8) (pv 4) (nomark _)) (pw_or (pt_not (pt_val (pe_cd G__law_are_starts (hr.mono (by decide)) pass0 (pa_cons (pv 4) (pa_cons (pv 5) (pa_cons (pv 9) pa_nil)))))) (pw_or1 (pt_cmpR op_ne (pe_callB (call_lenK K) (by rfl) T.m_len PySem.boot_len (pa_cons (pv 9) pa_nil)) (pv 7) (nomark _)))))) (pss_one (ps_ret pe_bl)) pss_nil)
      (pss_cons (ps_set (i := 10) sc_law.nd rfl (Or.inl rfl) (pe_cd G__law_near (hr.mono (by decide)) pass0 (pa_cons (pv 9) (pa_cons (pe_callB (call_lenK K) (by rfl) T.m_len PySem.boot_len (pa_cons (pv 4) pa_nil)) pa_nil))))
      (pss_cons (ps_for PassesOwn.never rfl (pi_range1 (by rfl) T.m_range (pa_cons pe_int pa_nil)) (pg_name (i := 11) sc_law.nd rfl (Or.inl rfl))
      (pss_one (ps_expr (pe_bm PySem.F.plainAttrs_list PySem.F.slot_list_append PySem.F.type_list_append mt_append (pv 10) (pa_cons (pe_cd G__law_in_lines (hr.mono (by decide)) pass0 (pa_cons (pe_slice (sl_listK K) (pv 0) (po_some (pe_op op_add (pv 1) (pv 11))) po_none) (pa_cons (pv 4) (pa_cons (pv 5) (pa_cons (pv 7) pa_nil))))) pa_nil)))))
      (pss_cons (ps_for PassesOwn.never rfl (pi_list (pv 10)) (pg_name (i := 12) sc_law.nd rfl (Or.inl rfl))
      (pss_one (ps_if (pt_val (pe_cd G__law_beaten (hr.mono (by decide)) pass0 (pa_cons (pv 4) (pa_cons (pv 5) (pa_cons (pv 9) (pa_cons (pv 12) pa_nil)))))) (pss_one (ps_ret pe_bl)) pss_nil)))
      (pss_one (ps_ret pe_bl)))))))))))))))))))), ?_⟩
  have hmx : ∀ a b : Int, (if b > a then b else a) = max a b := fun a b => by split <;> omega
  refine ⟨_, rfl, a, _, rfl, .inl hS, _, _, rfl, rfl, _, _, rfl, ?_⟩
  rw [hmx, List.length_map]
  have c1 : 0 ≤ 1 + cell ns 2 % 4 ∧ 1 + cell ns 2 % 4 ≤ 4 := by omega
  obtain ⟨u, hu⟩ : ∃ u, 1 + cell ns 2 % 4 = u := ⟨_, rfl⟩
  rw [hu] at c1
  obtain ⟨x, hx⟩ : ∃ x : Nat, max 0 ((ns.length : Int) - 4) = (x : Int) := ⟨(max 0 ((ns.length : Int) - 4)).toNat, by omega⟩
  have hxu : 0 ≤ (x : Int) * u := Int.mul_nonneg (by omega) (by omega)
  obtain ⟨cut, hcut⟩ : ∃ cut : Nat, 4 + (x : Int) * u / 5 = (cut : Int) := ⟨(4 + (x : Int) * u / 5).toNat, by omega⟩
  refine ⟨_, rfl, a, ns, 2, rfl, hS, _, _, rfl, rfl, (show (0 : Int) < 4 by decide), rI0_at (v := .int u) (congrArg V.int hu) ⟨_, _, rfl, rfl, .inr ⟨by omega, by omega⟩, _, _, rfl, rfl, ⟨by decide, by decide⟩, rI0_at (v := .int (cut : Nat)) (congrArg V.int (by rw [hx]; exact hcut)) ?_⟩⟩
  obtain ⟨m, hm⟩ : ∃ m, cell ns 0 = m := ⟨_, rfl⟩
  refine ⟨_, rfl, a, ns, 0, rfl, hS, ?_⟩
  rw [hm]
  obtain ⟨g, hg⟩ : ∃ g : Bool, decide (V.int (m / 600 % 8) = V.int 1) = g := ⟨_, rfl⟩
  refine ⟨_, rfl, _, _, rfl, rfl, ⟨by decide, by decide⟩, _, _, rfl, rfl, (show (0 : Int) < 8 by decide), ?_⟩
  refine ⟨rfl, ?_⟩
  first
    | rw [hg]
    | rw [show decide ((fun i j : Int => V.int (i % j)) (m / 600) 8 = V.int 1) = g from hg]
    | (simp only []; rw [hg])
    | (dsimp only; rw [hg])
  -- the words
  refine ⟨_, rfl, 4, rfl, _, rfl, (cut : Nat), rfl, a, _, rfl, hS, fun p np => ?_⟩
  have s1 : Same H (upd H p (.lst (cutV (vis ns) (some 4) (some (cut : Nat))))) := (Same.refl H).new np
  have ep : (upd H p (.lst (cutV (vis ns) (some 4) (some (cut : Nat))))) p = some (.lst (vis ((ns.drop 4).take (cut - 4)))) := by rw [upd_same]; exact congrArg some (congrArg HO.lst (cut_ft V.int ns 4 cut))
  generalize upd H p (.lst (cutV (vis ns) (some 4) (some (cut : Nat)))) = H1 at s1 ep ⊢
  refine ⟨_, rfl, p, (ns.drop 4).take (cut - 4), m, rfl, .of ep, by simp; omega, fun H2 r0 ws0 s2 nr er hw0 => ?_⟩
  have s02 := s1.trans s2
  clear s1 s2 ep np
  obtain ⟨v, hv⟩ : ∃ v : Int, (if g = true then (1 : Int) else 0) = v := ⟨_, rfl⟩
  have hv1 : v = 0 ∨ v = 1 := by rw [← hv]; split <;> omega
  refine ⟨_, rfl, .inr ⟨_, rfl, ?_⟩⟩
  rw [hv]
  obtain ⟨B, hB⟩ : ∃ B : Nat, 24 + 36 * v = (B : Int) := ⟨(24 + 36 * v).toNat, by omega⟩
  refine ⟨_, _, rfl, rfl, .inl ⟨by decide, by decide⟩, rI0_at (v := .int (B : Nat)) (congrArg V.int hB) ⟨(B : Nat), rfl, r0, _, rfl, .of er, fun r nr1 => ?_⟩⟩
  have ec : cutV (vts ws0) none (some (B : Int)) = vts (ws0.take B) := cut_to vt ws0 B
  rw [ec]
  have s3 := s02.new (o := HO.lst (vts (ws0.take B))) nr1
  have er3 : (upd H2 r (HO.lst (vts (ws0.take B)))) r = some (.lst (vts (ws0.take B))) := upd_same
  generalize upd H2 r (HO.lst (vts (ws0.take B))) = H3 at s3 er3 ⊢
  refine ⟨fun σ H' => ∃ r ws, σ = [some (.ref a), some (.int cut), some (.int m), some (.bl g), some (.ref r), none, none, none, none, none, none, none, none] ∧ Same H H' ∧ H' r = some (.lst (vts ws)) ∧ Wds ws, ?_, ?_⟩
  · refine ⟨_, rfl, _, _, rfl, rfl, ⟨by decide, by decide⟩, _, _, rfl, rfl, (show (0 : Int) < 3 by decide), rfl, _, rfl, tst (c := m / 4800 % 3 = 1) dec_vi (fun n1 => ?_) (fun n1 => ?_)⟩
    · refine ⟨_, rfl, 7, rfl, r, _, rfl, .of er3, fun p2 np2 => ?_⟩
      have ec : cutV (vts (ws0.take B)) none (some (7 : Int)) = vts ((ws0.take B).take 7) := cut_to vt _ 7
      exact ⟨p2, _, rfl, s3.new np2, by rw [upd_same, ec], (hw0.take B).take 7⟩
    · exact ⟨r, _, rfl, s3, er3, hw0.take B⟩
  clear s3 er3 nr1 er s02 hw0 nr
  rintro σ H4 ⟨r, ws, rfl, s4, er4, hw4⟩
  refine ⟨_, rfl, a, ns, 1, rfl, s4.seq hS, _, rfl, cell ns 1, r, ws, rfl, .of er4, hw4.bw, by have := longest_wds hw4; omega, fun H5 n5 s5 hn5 => ?_⟩
  have s05 := s4.trans s5
  refine ⟨fun σ H' => ∃ (r : Addr) (ws : List (List Nat)) (n : Int) (g : Bool), σ = [some (.ref a), some (.int cut), some (.int m), some (.bl g), some (.ref r), some (.int n), none, none, none, none, none, none, none] ∧ Same H H' ∧ H' r = some (.lst (vts ws)) ∧ Wds ws ∧ Wb n, ?_, ?_⟩
  · refine ⟨_, rfl, _, _, rfl, rfl, (show (0 : Int) < 24 by decide), rfl, _, rfl, tst (c := m % 24 = 3) dec_vi (fun n1 => ?_) (fun n1 => ?_)⟩
    · refine ⟨sz (by simp), fun e ne => ?_⟩
      have s6 := s05.new (o := HO.lst []) ne
      refine ⟨_, rfl, e, [], m, rfl, .of upd_same, by simp, fun H7 r7 ws7 s7 _ er7 hw7 => ?_⟩
      have s07 := s6.trans s7
      refine ⟨120, rfl, r7, _, rfl, .of er7, fun r8 nr8 => ?_⟩
      have ec : cutV (vts ws7) none (some (120 : Int)) = vts (ws7.take 120) := cut_to vt _ 120
      rw [ec]
      have s8 := s07.new (o := HO.lst (vts (ws7.take 120))) nr8
      have er8 : (upd H7 r8 (HO.lst (vts (ws7.take 120)))) r8 = some (.lst (vts (ws7.take 120))) := upd_same
      generalize upd H7 r8 (HO.lst (vts (ws7.take 120))) = H8 at s8 er8 ⊢
      have hw8 := hw7.take 120
      refine ⟨_, rfl, _, rfl, r8, _, rfl, .inl (.of er8), r8, ws7.take 120, 0, (ws7.take 120).length, by rw [List.length_map]; rfl, .of er8, hw8.bw, fun H9 s9 => ?_⟩
      have hz := hw8.bw.size 0 (ws7.take 120).length
      have hd : (0 : Int) < 2 + cell ns 1 % 3 ∧ 2 + cell ns 1 % 3 < 10 := by omega
      refine ⟨_, rfl, a, ns, 1, rfl, (s8.trans s9).seq hS, _, _, rfl, rfl, (show (0 : Int) < 3 by decide), _, _, rfl, rfl, _, _, rfl, rfl, ⟨hd.1, show 2 + cell ns 1 % 3 < 1073741824 by omega⟩, _, _, rfl, rfl, r8, ws7.take 120, _, true, rfl, s8.trans s9, s9 _ _ er8, hw8, ?_⟩
      have h1 := Int.ediv_nonneg (a := ((size (ws7.take 120) 0 (ws7.take 120).length : Nat) : Int)) (b := 2 + cell ns 1 % 3) (by omega) (by omega)
      have h2 := Int.ediv_le_self (a := ((size (ws7.take 120) 0 (ws7.take 120).length : Nat) : Int)) (2 + cell ns 1 % 3) (by omega)
      exact Wb.sm (by omega) (by omega)
    · exact ⟨r, ws, n5, g, rfl, s05, s5 _ _ er4, hw4, hn5⟩
  clear s05 s5 hn5 s4 er4 hw4 hg hv
  rintro σ H4 ⟨r, ws, n, g, rfl, s4, er4, hw4, hn⟩
  refine ⟨fun σ H' => ∃ (r : Addr) (ws : List (List Nat)) (g : Bool), σ = [some (.ref a), some (.int cut), some (.int m), some (.bl g), some (.ref r), some (.int n), none, none, none, none, none, none, none] ∧ Same H H' ∧ H' r = some (.lst (vts ws)) ∧ Wds ws, ?_, ?_⟩
  · refine ⟨_, rfl, _, rfl, ?_⟩
    cases g with
    | false => exact iteF ⟨r, ws, false, rfl, s4, er4, hw4⟩
    | true =>
      refine iteT ?_
      refine ⟨_, rfl, a, ns, 3, rfl, s4.seq hS, _, _, rfl, rfl, ⟨by decide, by decide⟩, _, _, rfl, rfl, (show (0 : Int) < 7 by decide), rfl, _, rfl, tst (c := cell ns 3 / 9 % 7 = 6) dec_vi (fun n1 => ?_) (fun n1 => ?_)⟩
      · refine ⟨_, rfl, 36, rfl, r, _, rfl, .of er4, fun p2 np2 => ?_⟩
        have ec : cutV (vts ws) none (some (36 : Int)) = vts (ws.take 36) := cut_to vt _ 36
        exact ⟨p2, _, false, rfl, s4.new np2, by rw [upd_same, ec], hw4.take 36⟩
      · exact ⟨r, ws, true, rfl, s4, er4, hw4⟩
  clear s4 er4 hw4
  rintro σ H4 ⟨r, ws, g, rfl, s4, er4, hw⟩
  have hb := hw.bw
  have hlen := hw.1
  have hlg := longest_wds hw
  have fl := hb.flat
  -- refused: a width
  refine ⟨_, rfl, _, _, rfl, rfl, _, rfl, ?_⟩
  by_cases h1 : n < 1
  · rw [decide_eq_true h1]
    refine ⟨_, rfl, r, _, rfl, .inl (.of er4), fun h nh => ?_⟩
    have s5 := s4.new (o := HO.lst (vts ws)) nh
    refine ⟨_, rfl, _, rfl, a, ns, 3, rfl, s5.seq hS, _, _, rfl, rfl, (show (0 : Int) < 1000 by decide), _, _, rfl, rfl, h, ws, n, _, rfl, .of upd_same, hb, hn, fun _ H6 s6 => ?_, fun z => by omega, fun z => by have := z.1; omega⟩
    refine ⟨_, rfl, _, _, rfl, rfl, .inr ⟨_, rfl, ?_⟩⟩
    rw [decide_eq_false (show ¬ 1 ≤ n by omega)]
    refine ⟨_, _, rfl, rfl, rfl, ?_⟩
    exact q _
  rw [decide_eq_false h1]
  refine ⟨_, rfl, r, ws, rfl, .of er4, hb, _, rfl, _, _, rfl, rfl, _, rfl, ?_⟩
  by_cases h2 : n < (longest ws : Nat)
  · rw [decide_eq_true h2]
    refine ⟨_, rfl, r, _, rfl, .inl (.of er4), fun h nh => ?_⟩
    have s5 := s4.new (o := HO.lst (vts ws)) nh
    refine ⟨_, rfl, _, rfl, a, ns, 3, rfl, s5.seq hS, _, _, rfl, rfl, (show (0 : Int) < 1000 by decide), _, _, rfl, rfl, h, ws, n, _, rfl, .of upd_same, hb, hn, fun z => absurd z h1, fun _ _ H6 s6 => ?_, fun z => ?_⟩
    · refine ⟨_, rfl, _, _, rfl, rfl, .inr ⟨_, rfl, ?_⟩⟩
      rw [decide_eq_true (show 1 ≤ n by omega)]
      refine ⟨_, _, rfl, rfl, rfl, ?_⟩
      exact q _
    · have : longest ws ≤ n.toNat := longest_le fun w hw' => by have := z.2 w hw'; omega
      omega
  rw [decide_eq_false h2]
  refine iteF ?_
  have ft : Ft ws n := Ft.of (by omega) (by omega)
  -- the quick starts' number
  refine ⟨sz (by simp), fun e ne => ?_⟩
  have s5 := s4.new (o := HO.lst []) ne
  have er5 := kept er4 ne (o := HO.lst [])
  refine ⟨_, rfl, _, rfl, e, r, [], ws, n, rfl, .of upd_same, .of er5, hb, ft, fun H6 o6 qs s6 no6 eo6 hf6 hq6 => ?_⟩
  have hq := hq6 rfl
  have s06 := s5.trans s6
  have er6 := s6 _ _ er5
  have hql := hf6.ch.len
  have eql : (((vis (toI qs)).length : Nat) : Int) = (qs.length : Nat) := by rw [List.length_map, toI_length]
  refine ⟨o6, _, rfl, .inl (.of eo6), ?_⟩
  rw [show (V.int ((vis (toI qs)).length : Nat)) = V.int (qs.length : Nat) by rw [eql]]
  refine ⟨_, rfl, a, ns, 3, rfl, s06.seq hS, _, rfl, _, rfl, r, _, rfl, .inl (.of er6), _, rfl, cell ns 3, qs.length, ws.length, g, by rw [List.length_map]; rfl, by omega, fun H7 mm s7 => ?_⟩
  have er7 := s7 _ _ er6
  refine ⟨_, rfl, r, _, rfl, .inl (.of er7), fun h nh => ?_⟩
  have s8 := (s06.trans s7).new (o := HO.lst (vts ws)) nh
  have er8 := kept er7 nh (o := HO.lst (vts ws))
  have eh8 : (upd H7 h (HO.lst (vts ws))) h = some (.lst (vts ws)) := upd_same
  generalize upd H7 h (HO.lst (vts ws)) = H8 at s8 er8 eh8 ⊢
  have elw : (((vts ws).length : Nat) : Int) = (ws.length : Nat) := by rw [List.length_map]
  have same : ∀ qs', Qk ws n 0 qs' → qs'.length = qs.length := fun qs' hq' => by
    have := (hq.least (Nat.le_refl 0) hq'.fc).1
    have := (hq'.least (Nat.le_refl 0) hq.fc).1
    omega
  refine ⟨_, rfl, _, rfl, _, _, rfl, rfl, _, rfl, ?_⟩
  by_cases h3 : mm < (qs.length : Nat)
  · rw [decide_eq_true h3]
    refine ⟨_, rfl, _, rfl, _, rfl, h, ws, n, mm, rfl, .of eh8, hb, hn, fun z => absurd z h1, fun _ z => absurd z h2, fun _ qs' hq' => ⟨.inl (by rw [same qs' hq']; exact h3), fun _ H9 s9 => ?_, fun z => by rw [same qs' hq'] at z; omega⟩⟩
    refine ⟨_, rfl, _, rfl, r, _, rfl, .inl (.of (s9 _ _ er8)), _, _, rfl, rfl, .inr ⟨_, rfl, ?_⟩⟩
    rw [elw, decide_eq_false (show ¬ (ws.length : Int) < mm by omega)]
    refine ⟨_, _, rfl, rfl, rfl, _, rfl, tst (c := True) (by simp) (fun _ => ?_) (fun z => absurd trivial z)⟩
    refine ⟨_, rfl, _, rfl, h, r, _, _, rfl, rfl, .of (s9 _ _ eh8), .of (s9 _ _ er8), fl, fl, ?_⟩
    rw [decide_eq_true rfl]; exact q _
  rw [decide_eq_false h3]
  refine ⟨_, rfl, _, rfl, r, _, rfl, .inl (.of er8), _, _, rfl, rfl, _, rfl, ?_⟩
  rw [elw]
  by_cases h4 : (ws.length : Int) < mm
  · rw [decide_eq_true h4]
    refine ⟨_, rfl, _, rfl, _, rfl, h, ws, n, mm, rfl, .of eh8, hb, hn, fun z => absurd z h1, fun _ z => absurd z h2, fun _ qs' hq' => ⟨.inr h4, fun z => by rw [same qs' hq'] at z; omega, fun _ _ H9 s9 => ?_⟩⟩
    refine ⟨_, rfl, _, rfl, r, _, rfl, .inl (.of (s9 _ _ er8)), _, _, rfl, rfl, .inr ⟨_, rfl, ?_⟩⟩
    rw [elw, decide_eq_true h4]
    refine ⟨_, _, rfl, rfl, rfl, _, rfl, tst (c := True) (by simp) (fun _ => ?_) (fun z => absurd trivial z)⟩
    refine ⟨_, rfl, _, rfl, h, r, _, _, rfl, rfl, .of (s9 _ _ eh8), .of (s9 _ _ er8), fl, fl, ?_⟩
    rw [decide_eq_true rfl]; exact q _
  rw [decide_eq_false h4]
  refine iteF ?_
  -- the starts
  refine ⟨_, rfl, _, rfl, _, rfl, h, ws, n, mm, rfl, .of eh8, hb, hn, fun z => absurd z h1, fun _ z => absurd z h2, fun _ qs' hq' => ⟨fun z => by rw [same qs' hq'] at z; omega, fun _ z => absurd z h4⟩, fun _ k L H9 o ks em hk hLs hkl hbc s9 no eo => ?_⟩
  subst em
  have er9 := s9 _ _ er8
  have hfk := hbc.fc
  refine ⟨_, rfl, _, rfl, h, r, _, _, rfl, rfl, .of (s9 _ _ eh8), .of er9, fl, fl, _, rfl, ?_⟩
  rw [show (!decide (vts ws = vts ws)) = false by simp]
  refine iteF ?_
  refine ⟨_, rfl, _, rfl, _, rfl, r, o, ws, n, toI ks, rfl, .of er9, eo, hb, by rw [toI_length]; omega, fun HA b sA hbb => ⟨_, rfl, ?_⟩⟩
  have hbt : b = true := hbb.mpr ⟨ks, rfl, hfk⟩
  subst hbt
  refine iteF ?_
  have eoA := sA _ _ eo
  have erA := sA _ _ er9
  refine ⟨_, rfl, o, _, rfl, .inl (.of eoA), _, rfl, rfl, _, rfl, ?_⟩
  rw [show (!decide (V.int (((vis (toI ks)).length : Nat) : Int) = V.int ((k : Nat) : Int))) = false by rw [dec_vi, List.length_map, toI_length, hkl]; simp]
  refine iteF ?_
  have s0A := (s8.trans s9).trans sA
  refine ⟨_, rfl, _, rfl, r, _, rfl, .inl (.of erA), o, toI ks, ws.length, by rw [List.length_map]; rfl, .of eoA, by rw [toI_length]; omega, fun HB R ts sB nR eR tl tI => ?_⟩
  have eoB := sB _ _ eoA
  have erB := sB _ _ erA
  have s0B := s0A.trans sB
  have win : ∀ os, Fc ws n 0 os → os.length = ks.length → sm ws n ks ≤ sm ws n os ∧ (sm ws n os = sm ws n ks → lexLt (toI ks) (toI os) = false) := fun os ho hol => by
    obtain ⟨v1, g1, g2⟩ := hLs.le ho (by omega)
    have g3 := hLs.sum hbc (by omega)
    rw [hol, g3] at g1
    cases g1
    exact ⟨g2, fun z => hLs.tie hbc ho hol (by omega) z⟩
  have tR : ∀ t ∈ ts, t ≠ R := fun t ht z => by
    obtain ⟨xs, e1, _⟩ := tI t ht
    rw [z, eR] at e1
    cases ts with
    | nil => cases ht
    | cons t0 r0 =>
      cases xs with
      | nil => cases e1
      | cons y ys => cases e1
  have oR : o ≠ R := fun z => by rw [z, nR] at eoA; cases eoA
  have rR : r ≠ R := fun z => by rw [z, nR] at erA; cases erA
  refine ⟨3, rfl, by decide, by decide, ?_⟩
  refine for_range (n := 3) (fun i σ H' => Same H H' ∧ (∃ (ts : List Addr) (z : Option V), σ = [some (.ref a), some (.int cut), some (.int m), some (.bl g), some (.ref r), some (.int n), some (.int (qs.length : Nat)), some (.int (k : Nat)), some (.ref h), some (.ref o), some (.ref R), z, none] ∧ H' R = some (.lst (ts.map V.ref)) ∧ ts.length ≤ 10000 + i ∧ Ilb 10000 H' ts ∧ ∀ t ∈ ts, t ≠ R) ∧ H' o = some (.lst (vis (toI ks))) ∧ H' r = some (.lst (vts ws))) ?_ ?_ ?_
  · exact ⟨s0B, ⟨ts, none, rfl, eR, by omega, tI, tR⟩, eoB, erB⟩
  · rintro i σ HC hi ⟨sC, ⟨ts, z, rfl, eRC, tlC, tIC, tRC⟩, eoC, erC⟩
    refine ⟨_, rfl, .inl ⟨rfl, _, .of eRC⟩, _, rfl, _, rfl, _, rfl, _, _, rfl, rfl, _, rfl, a, _, rfl, sC.seq hS, fun p np => ?_⟩
    have ec : cutV (vis ns) (some ((cut : Int) + (0 + (i : Int)))) none = vis (ns.drop (cut + i)) := by
      rw [show (cut : Int) + (0 + (i : Int)) = ((cut + i : Nat) : Int) by omega]; exact cut_from V.int ns (cut + i)
    rw [ec]
    have k1 := (Same.refl HC).new (o := HO.lst (vis (ns.drop (cut + i)))) np
    have ep : (upd HC p (HO.lst (vis (ns.drop (cut + i))))) p = some (.lst (vis (ns.drop (cut + i)))) := upd_same
    generalize upd HC p (HO.lst (vis (ns.drop (cut + i)))) = HD at k1 ep ⊢
    refine ⟨_, rfl, _, rfl, _, rfl, p, r, _, ws, n, (k : Nat), rfl, .of ep, .of (k1 _ _ erC), hb, ft, by omega, by omega, fun HE t xs kE nt et xl => ?_⟩
    have k2 := k1.trans kE
    have tR2 : t ≠ R := fun z => by rw [z, k1 _ _ eRC] at nt; cases nt
    have hall : ∀ t' ∈ ts ++ [t], t' ≠ R := fun t' ht' => by
      rcases List.mem_append.mp ht' with z | z
      · exact tRC t' z
      · rw [List.mem_singleton.mp z]; exact tR2
    refine ⟨R, _, _, rfl, rfl, k2 _ _ eRC, by rw [List.length_map]; exact szl (by omega), (sC.trans k2).put ?_, ⟨ts ++ [t], some (.int (0 + (i : Int))), rfl, by rw [upd_same, List.map_append]; rfl, by rw [List.length_append, List.length_singleton]; omega, ((tIC.same k2).app (Ilb.one et xl)).put hall, hall⟩, by rw [upd_ne oR]; exact k2 _ _ eoC, by rw [upd_ne rR]; exact k2 _ _ erC⟩
    exact s0A.free nR
  rintro σ HC ⟨sC, ⟨ts, z, rfl, eRC, tlC, tIC, tRC⟩, eoC, erC⟩
  refine ⟨_, rfl, R, rfl, ⟨_, .of eRC⟩, ?_⟩
  refine for_list (xs := ts.map V.ref) (fun i σ H' => Same HC H' ∧ ∃ (z y : Option V), σ = [some (.ref a), some (.int cut), some (.int m), some (.bl g), some (.ref r), some (.int n), some (.int (qs.length : Nat)), some (.int (k : Nat)), some (.ref h), some (.ref o), some (.ref R), z, y]) ?_ ?_ ?_ ?_
  · exact ⟨Same.refl _, z, none, rfl⟩
  · rintro i σ H' _ ⟨s1, _⟩; exact .of (s1 _ _ eRC)
  · rintro i x σ HD hx ⟨sD, z, y, rfl⟩
    have hi : i < ts.length := by have := (List.getElem?_eq_some_iff.mp hx).1; simpa using this
    rw [flat_get (List.getElem?_eq_getElem hi)] at hx
    cases hx
    obtain ⟨xs, ex, xl⟩ := tIC ts[i] (List.getElem_mem hi)
    refine ⟨_, rfl, _, rfl, _, rfl, _, rfl, r, o, ts[i], ws, n, ks, xs, rfl, .of (sD _ _ erC), sD _ _ eoC, sD _ _ ex, hb, hn, by omega, by omega, fun os _ ho hol => win os ho hol, fun HE sE => ⟨_, rfl, iteF ?_⟩⟩
    exact ⟨sD.trans sE, z, _, rfl⟩
  · rintro σ HD _
    exact q _

end
theorem all_mk {P : Program} {w : World} {K : PySem.W.Frag} {mg : Str → Option Value} {fa : Addr} {ea : EA} (T : Bts mg) (X : Xs K mg ea)
    (A_size_of : At K mg "size_of" ["words", "begin", "end"] st_size_of)
    (A_need_width : At K mg "need_width" ["width"] st_need_width)
    (A_long_word : At K mg "long_word" ["words", "width"] st_long_word)
    (A_need_fits : At K mg "need_fits" ["words", "width"] st_need_fits)
    (A_line_price : At K mg "line_price" ["words", "width", "begin", "end"] st_line_price)
    (A_quick_starts : At K mg "quick_starts" ["words", "width"] st_quick_starts)
    (A_end_by : At K mg "end_by" ["words", "width", "layer", "at"] st_end_by)
    (A_next_layer : At K mg "next_layer" ["words", "width", "layer"] st_next_layer)
    (A_layers_of : At K mg "layers_of" ["words", "width", "many"] st_layers_of)
    (A_starts_in : At K mg "starts_in" ["words", "width", "many"] st_starts_in)
    (A__law_cell_at : At K mg "_law_cell_at" ["_law_script", "_law_k"] st__law_cell_at)
    (A__law_sign_by : At K mg "_law_sign_by" ["_law_cell"] st__law_sign_by)
    (A__law_word_by : At K mg "_law_word_by" ["_law_cell"] st__law_word_by)
    (A__law_whole : At K mg "_law_whole" ["_law_found"] st__law_whole)
    (A__law_wholes : At K mg "_law_wholes" ["_law_found"] st__law_wholes)
    (A__law_longest : At K mg "_law_longest" ["_law_row"] st__law_longest)
    (A__law_size : At K mg "_law_size" ["_law_row", "_law_begin", "_law_end"] st__law_size)
    (A__law_alike_by : At K mg "_law_alike_by" ["_law_cell", "_law_size_here"] st__law_alike_by)
    (A__law_wide_by : At K mg "_law_wide_by" ["_law_more", "_law_k"] st__law_wide_by)
    (A__law_words_by : At K mg "_law_words_by" ["_law_cells", "_law_more"] st__law_words_by)
    (A__law_width_by : At K mg "_law_width_by" ["_law_cell", "_law_row"] st__law_width_by)
    (A__law_price : At K mg "_law_price" ["_law_row", "_law_width", "_law_begin", "_law_end"] st__law_price)
    (A__law_sum : At K mg "_law_sum" ["_law_row", "_law_width", "_law_found"] st__law_sum)
    (A__law_are_starts : At K mg "_law_are_starts" ["_law_row", "_law_width", "_law_found"] st__law_are_starts)
    (A__law_others_by : At K mg "_law_others_by" ["_law_cells", "_law_row", "_law_width"] st__law_others_by)
    (A__law_in_lines : At K mg "_law_in_lines" ["_law_cells", "_law_row", "_law_width", "_law_many"] st__law_in_lines)
    (A__law_kind : At K mg "_law_kind" ["_law_e"] st__law_kind)
    (A__law_refusal : At K mg "_law_refusal" ["_law_row", "_law_width", "_law_many"] st__law_refusal)
    (A__law_all : At K mg "_law_all" ["_law_count"] st__law_all)
    (A__law_near : At K mg "_law_near" ["_law_found", "_law_count"] st__law_near)
    (A__law_beaten : At K mg "_law_beaten" ["_law_row", "_law_width", "_law_found", "_law_others"] st__law_beaten)
    (A__law_many_by : At K mg "_law_many_by" ["_law_cell", "_law_quick", "_law_count", "_law_great"] st__law_many_by)
    (A_law : LawAt K fa "law" "_law_script" st_law) :
    ∃ fd : FuncData, (∀ (s : Shared) (v : Value), BindsTo s fd ⟨[v], []⟩ [("_law_script", v)]) ∧ ∀ base : Heap, K.In base → base.Ns mainGlobals mg → FnOk P w K mg base CX0 7 fa fd ["_law_script"] (sp_law K) := by
  obtain ⟨fd, hb, F⟩ := A_law.ex
  refine ⟨fd, hb, fun base _ _ => ?_⟩
  have O_size_of := ok_size_of (P := P) (w := w) (base := base) A_size_of T
  have O_need_width := ok_need_width (P := P) (w := w) (base := base) A_need_width T X
  have O_long_word := ok_long_word (P := P) (w := w) (base := base) A_long_word T X O_need_width
  have O_need_fits := ok_need_fits (P := P) (w := w) (base := base) A_need_fits T X O_long_word
  have O_line_price := ok_line_price (P := P) (w := w) (base := base) A_line_price T O_size_of
  have O_quick_starts := ok_quick_starts (P := P) (w := w) (base := base) A_quick_starts T X O_need_fits
  have O_end_by := ok_end_by (P := P) (w := w) (base := base) A_end_by T
  have O_next_layer := ok_next_layer (P := P) (w := w) (base := base) A_next_layer T O_line_price O_end_by
  have O_layers_of := ok_layers_of (P := P) (w := w) (base := base) A_layers_of T O_next_layer
  have O_starts_in := ok_starts_in (P := P) (w := w) (base := base) A_starts_in T X O_quick_starts O_layers_of O_end_by
  have O__law_cell_at := ok__law_cell_at (P := P) (w := w) (base := base) A__law_cell_at T
  have O__law_sign_by := ok__law_sign_by (P := P) (w := w) (base := base) A__law_sign_by T
  have O__law_word_by := ok__law_word_by (P := P) (w := w) (base := base) A__law_word_by T O__law_sign_by
  have O__law_whole := ok__law_whole (P := P) (w := w) (base := base) A__law_whole T
  have O__law_wholes := ok__law_wholes (P := P) (w := w) (base := base) A__law_wholes T O__law_whole
  have O__law_longest := ok__law_longest (P := P) (w := w) (base := base) A__law_longest T
  have O__law_size := ok__law_size (P := P) (w := w) (base := base) A__law_size T
  have O__law_alike_by := ok__law_alike_by (P := P) (w := w) (base := base) A__law_alike_by T O__law_sign_by
  have O__law_wide_by := ok__law_wide_by (P := P) (w := w) (base := base) A__law_wide_by T
  have O__law_words_by := ok__law_words_by (P := P) (w := w) (base := base) A__law_words_by T O__law_sign_by O__law_word_by O__law_alike_by O__law_wide_by
  have O__law_width_by := ok__law_width_by (P := P) (w := w) (base := base) A__law_width_by T O__law_longest
  have O__law_price := ok__law_price (P := P) (w := w) (base := base) A__law_price T O__law_size
  have O__law_sum := ok__law_sum (P := P) (w := w) (base := base) A__law_sum T O__law_price
  have O__law_are_starts := ok__law_are_starts (P := P) (w := w) (base := base) A__law_are_starts T O__law_wholes O__law_size
  have O__law_others_by := ok__law_others_by (P := P) (w := w) (base := base) A__law_others_by T O__law_size
  have O__law_in_lines := ok__law_in_lines (P := P) (w := w) (base := base) A__law_in_lines T O__law_others_by
  have O__law_kind := ok__law_kind (P := P) (w := w) (base := base) A__law_kind T X
  have O__law_refusal := ok__law_refusal (P := P) (w := w) (base := base) A__law_refusal T X O_starts_in O__law_kind
  have O__law_all := ok__law_all (P := P) (w := w) (base := base) A__law_all T
  have O__law_near := ok__law_near (P := P) (w := w) (base := base) A__law_near T O__law_all
  have O__law_beaten := ok__law_beaten (P := P) (w := w) (base := base) A__law_beaten T O__law_sum O__law_are_starts
  have O__law_many_by := ok__law_many_by (P := P) (w := w) (base := base) A__law_many_by T
  refine F.ok sc_law (fun vs H Q E h => ?_) (fun cdv A outer s H vs Q E hr h => body_law T X O__law_cell_at O__law_words_by O__law_width_by O__law_longest O__law_size O__law_are_starts O__law_others_by O__law_many_by O__law_in_lines O__law_near O__law_beaten O__law_refusal O_starts_in fa cdv A outer s H vs Q E hr h)
  obtain ⟨a, ns, rfl, _⟩ := h; rfl
end Tw
open PySem PySem.W PyProof.Rows
set_option maxHeartbeats 0 in
theorem PySem.Challenge.cw_textwrapper_k11_whole_none_less_in_lines_holds : PySem.Challenge.rw_textwrapper_k11_whole_none_less_in_lines.Holds := by
  w_on; o_law; k_head; (case hw => w_witness2)
  k_fill
  refine L2.walk_of (l := PySem.Challenge.rw_textwrapper_k11_whole_none_less_in_lines) (n := 63) (k := 7) (x := "_law_script") (CX := fun _ => L2.CX0) (sp := fun w => Tw.sp_law _) rfl (by decide) rfl ⟨rfl, by decide, by decide⟩ (fun w h Y => PySem.W.kIn_of Y) ?F (fun _ _ a ns hl _ hS => ⟨a, ns, rfl, hS, hl, fun _ => rfl⟩) (fun _ _ _ _ _ h => h)
  case F =>
    intro w mg fa h KX G hmg
    refine' Tw.all_mk ?T ?X ?A_size_of ?A_need_width ?A_long_word ?A_need_fits ?A_line_price ?A_quick_starts ?A_end_by ?A_next_layer ?A_layers_of ?A_starts_in ?A__law_cell_at ?A__law_sign_by ?A__law_word_by ?A__law_whole ?A__law_wholes ?A__law_longest ?A__law_size ?A__law_alike_by ?A__law_wide_by ?A__law_words_by ?A__law_width_by ?A__law_price ?A__law_sum ?A__law_are_starts ?A__law_others_by ?A__law_in_lines ?A__law_kind ?A__law_refusal ?A__law_all ?A__law_near ?A__law_beaten ?A__law_many_by ?A_law
    case T =>
      refine' Tw.bts_mk KX G ?z1 ?z2 ?z3 ?z4 ?z5 ?z6 ?z7 ?z8 ?z9 ?z10 ?z11 ?z12
      (case z1 => k_is); (case z2 => k_is); (case z3 => k_is); (case z4 => k_is); (case z5 => k_is); (case z6 => k_is); (case z7 => k_is); (case z8 => k_is); (case z9 => k_is); (case z10 => k_is); (case z11 => k_is); (case z12 => k_is)
    case X =>
      refine' Tw.xs_mk KX G ?w ?c0 ?c1 ?c2 ?c3 ?c4 ?c5 ?c6 ?c7 ?c8 ?c9 ?d0 ?d1 ?d2 ?d3 ?d4 ?d5 ?d6 ?d7 ?d8 ?d9
      (case w => k_is)
      case c0 =>
        refine' Tw.xc_mk KX G ?a ?ex ?kp ?b ?t ?m1 ?m2 ?m3 ?m4 ?ve ?wc ?g1 ?g2 ?g4 ?g5 ?g6 ?g7 ?g8
        (case a => k_is); (case ex => k_exc); (case kp => k_is); (case b => k_is); (case t => k_is); (case m1 => k_is); (case m2 => k_is); (case m3 => k_is); (case m4 => k_is); (case ve => k_is); (case wc => exact Tw.cls_some (by k_is)); (case g1 => k_is); (case g2 => k_is); (case g4 => k_is); (case g5 => k_is); (case g6 => k_is); (case g7 => k_is); (case g8 => k_is)
      case c1 =>
        refine' Tw.xc_mk KX G ?a ?ex ?kp ?b ?t ?m1 ?m2 ?m3 ?m4 ?ve ?wc ?g1 ?g2 ?g4 ?g5 ?g6 ?g7 ?g8
        (case a => k_is); (case ex => k_exc); (case kp => k_is); (case b => k_is); (case t => k_is); (case m1 => k_is); (case m2 => k_is); (case m3 => k_is); (case m4 => k_is); (case ve => k_is); (case wc => exact Tw.cls_some (by k_is)); (case g1 => k_is); (case g2 => k_is); (case g4 => k_is); (case g5 => k_is); (case g6 => k_is); (case g7 => k_is); (case g8 => k_is)
      case c2 =>
        refine' Tw.xc_mk KX G ?a ?ex ?kp ?b ?t ?m1 ?m2 ?m3 ?m4 ?ve ?wc ?g1 ?g2 ?g4 ?g5 ?g6 ?g7 ?g8
        (case a => k_is); (case ex => k_exc); (case kp => k_is); (case b => k_is); (case t => k_is); (case m1 => k_is); (case m2 => k_is); (case m3 => k_is); (case m4 => k_is); (case ve => k_is); (case wc => exact Tw.cls_some (by k_is)); (case g1 => k_is); (case g2 => k_is); (case g4 => k_is); (case g5 => k_is); (case g6 => k_is); (case g7 => k_is); (case g8 => k_is)
      case c3 =>
        refine' Tw.xc_mk KX G ?a ?ex ?kp ?b ?t ?m1 ?m2 ?m3 ?m4 ?ve ?wc ?g1 ?g2 ?g4 ?g5 ?g6 ?g7 ?g8
        (case a => k_is); (case ex => k_exc); (case kp => k_is); (case b => k_is); (case t => k_is); (case m1 => k_is); (case m2 => k_is); (case m3 => k_is); (case m4 => k_is); (case ve => k_is); (case wc => exact Tw.cls_some (by k_is)); (case g1 => k_is); (case g2 => k_is); (case g4 => k_is); (case g5 => k_is); (case g6 => k_is); (case g7 => k_is); (case g8 => k_is)
      case c4 =>
        refine' Tw.xc_mk KX G ?a ?ex ?kp ?b ?t ?m1 ?m2 ?m3 ?m4 ?ve ?wc ?g1 ?g2 ?g4 ?g5 ?g6 ?g7 ?g8
        (case a => k_is); (case ex => k_exc); (case kp => k_is); (case b => k_is); (case t => k_is); (case m1 => k_is); (case m2 => k_is); (case m3 => k_is); (case m4 => k_is); (case ve => k_is); (case wc => exact Tw.cls_some (by k_is)); (case g1 => k_is); (case g2 => k_is); (case g4 => k_is); (case g5 => k_is); (case g6 => k_is); (case g7 => k_is); (case g8 => k_is)
      case c5 =>
        refine' Tw.xc_mk KX G ?a ?ex ?kp ?b ?t ?m1 ?m2 ?m3 ?m4 ?ve ?wc ?g1 ?g2 ?g4 ?g5 ?g6 ?g7 ?g8
        (case a => k_is); (case ex => k_exc); (case kp => k_is); (case b => k_is); (case t => k_is); (case m1 => k_is); (case m2 => k_is); (case m3 => k_is); (case m4 => k_is); (case ve => k_is); (case wc => exact Tw.cls_some (by k_is)); (case g1 => k_is); (case g2 => k_is); (case g4 => k_is); (case g5 => k_is); (case g6 => k_is); (case g7 => k_is); (case g8 => k_is)
      case c6 =>
        refine' Tw.xc_mk KX G ?a ?ex ?kp ?b ?t ?m1 ?m2 ?m3 ?m4 ?ve ?wc ?g1 ?g2 ?g4 ?g5 ?g6 ?g7 ?g8
        (case a => k_is); (case ex => k_exc); (case kp => k_is); (case b => k_is); (case t => k_is); (case m1 => k_is); (case m2 => k_is); (case m3 => k_is); (case m4 => k_is); (case ve => k_is); (case wc => exact Tw.cls_some (by k_is)); (case g1 => k_is); (case g2 => k_is); (case g4 => k_is); (case g5 => k_is); (case g6 => k_is); (case g7 => k_is); (case g8 => k_is)
      case c7 =>
        refine' Tw.xc_mk KX G ?a ?ex ?kp ?b ?t ?m1 ?m2 ?m3 ?m4 ?ve ?wc ?g1 ?g2 ?g4 ?g5 ?g6 ?g7 ?g8
        (case a => k_is); (case ex => k_exc); (case kp => k_is); (case b => k_is); (case t => k_is); (case m1 => k_is); (case m2 => k_is); (case m3 => k_is); (case m4 => k_is); (case ve => k_is); (case wc => exact Tw.cls_some (by k_is)); (case g1 => k_is); (case g2 => k_is); (case g4 => k_is); (case g5 => k_is); (case g6 => k_is); (case g7 => k_is); (case g8 => k_is)
      case c8 =>
        refine' Tw.xc_mk KX G ?a ?ex ?kp ?b ?t ?m1 ?m2 ?m3 ?m4 ?ve ?wc ?g1 ?g2 ?g4 ?g5 ?g6 ?g7 ?g8
        (case a => k_is); (case ex => k_exc); (case kp => k_is); (case b => k_is); (case t => k_is); (case m1 => k_is); (case m2 => k_is); (case m3 => k_is); (case m4 => k_is); (case ve => k_is); (case wc => exact Tw.cls_some (by k_is)); (case g1 => k_is); (case g2 => k_is); (case g4 => k_is); (case g5 => k_is); (case g6 => k_is); (case g7 => k_is); (case g8 => k_is)
      case c9 =>
        refine' Tw.xc_mk KX G ?a ?ex ?kp ?b ?t ?m1 ?m2 ?m3 ?m4 ?ve ?wc ?g1 ?g2 ?g4 ?g5 ?g6 ?g7 ?g8
        (case a => k_is); (case ex => k_exc); (case kp => k_is); (case b => k_is); (case t => k_is); (case m1 => k_is); (case m2 => k_is); (case m3 => k_is); (case m4 => k_is); (case ve => k_is); (case wc => exact Tw.cls_some (by k_is)); (case g1 => k_is); (case g2 => k_is); (case g4 => k_is); (case g5 => k_is); (case g6 => k_is); (case g7 => k_is); (case g8 => k_is)
      case d0 =>
        refine' Tw.Sd.mk ?k0 ?k1 ?k2 ?k3 ?k4 ?k5 ?k6 ?k7 ?k8 ?k9
        (case k0 => k_is); (case k1 => k_is); (case k2 => k_is); (case k3 => k_is); (case k4 => k_is); (case k5 => k_is); (case k6 => k_is); (case k7 => k_is); (case k8 => k_is); (case k9 => k_is)
      case d1 =>
        refine' Tw.Sd.mk ?k0 ?k1 ?k2 ?k3 ?k4 ?k5 ?k6 ?k7 ?k8 ?k9
        (case k0 => k_is); (case k1 => k_is); (case k2 => k_is); (case k3 => k_is); (case k4 => k_is); (case k5 => k_is); (case k6 => k_is); (case k7 => k_is); (case k8 => k_is); (case k9 => k_is)
      case d2 =>
        refine' Tw.Sd.mk ?k0 ?k1 ?k2 ?k3 ?k4 ?k5 ?k6 ?k7 ?k8 ?k9
        (case k0 => k_is); (case k1 => k_is); (case k2 => k_is); (case k3 => k_is); (case k4 => k_is); (case k5 => k_is); (case k6 => k_is); (case k7 => k_is); (case k8 => k_is); (case k9 => k_is)
      case d3 =>
        refine' Tw.Sd.mk ?k0 ?k1 ?k2 ?k3 ?k4 ?k5 ?k6 ?k7 ?k8 ?k9
        (case k0 => k_is); (case k1 => k_is); (case k2 => k_is); (case k3 => k_is); (case k4 => k_is); (case k5 => k_is); (case k6 => k_is); (case k7 => k_is); (case k8 => k_is); (case k9 => k_is)
      case d4 =>
        refine' Tw.Sd.mk ?k0 ?k1 ?k2 ?k3 ?k4 ?k5 ?k6 ?k7 ?k8 ?k9
        (case k0 => k_is); (case k1 => k_is); (case k2 => k_is); (case k3 => k_is); (case k4 => k_is); (case k5 => k_is); (case k6 => k_is); (case k7 => k_is); (case k8 => k_is); (case k9 => k_is)
      case d5 =>
        refine' Tw.Sd.mk ?k0 ?k1 ?k2 ?k3 ?k4 ?k5 ?k6 ?k7 ?k8 ?k9
        (case k0 => k_is); (case k1 => k_is); (case k2 => k_is); (case k3 => k_is); (case k4 => k_is); (case k5 => k_is); (case k6 => k_is); (case k7 => k_is); (case k8 => k_is); (case k9 => k_is)
      case d6 =>
        refine' Tw.Sd.mk ?k0 ?k1 ?k2 ?k3 ?k4 ?k5 ?k6 ?k7 ?k8 ?k9
        (case k0 => k_is); (case k1 => k_is); (case k2 => k_is); (case k3 => k_is); (case k4 => k_is); (case k5 => k_is); (case k6 => k_is); (case k7 => k_is); (case k8 => k_is); (case k9 => k_is)
      case d7 =>
        refine' Tw.Sd.mk ?k0 ?k1 ?k2 ?k3 ?k4 ?k5 ?k6 ?k7 ?k8 ?k9
        (case k0 => k_is); (case k1 => k_is); (case k2 => k_is); (case k3 => k_is); (case k4 => k_is); (case k5 => k_is); (case k6 => k_is); (case k7 => k_is); (case k8 => k_is); (case k9 => k_is)
      case d8 =>
        refine' Tw.Sd.mk ?k0 ?k1 ?k2 ?k3 ?k4 ?k5 ?k6 ?k7 ?k8 ?k9
        (case k0 => k_is); (case k1 => k_is); (case k2 => k_is); (case k3 => k_is); (case k4 => k_is); (case k5 => k_is); (case k6 => k_is); (case k7 => k_is); (case k8 => k_is); (case k9 => k_is)
      case d9 =>
        refine' Tw.Sd.mk ?k0 ?k1 ?k2 ?k3 ?k4 ?k5 ?k6 ?k7 ?k8 ?k9
        (case k0 => k_is); (case k1 => k_is); (case k2 => k_is); (case k3 => k_is); (case k4 => k_is); (case k5 => k_is); (case k6 => k_is); (case k7 => k_is); (case k8 => k_is); (case k9 => k_is)
    case A_size_of =>
      refine' Tw.at_mk KX G ?a ?l ?c ?k ?b
      (case a => k_is); (case l => k_is); (case c => k_is); (case k => k_is)
      (case b => exact fun _ _ _ _ _ _ us hl => match us, hl with | [_, _, _], _ => rfl)
    case A_need_width =>
      refine' Tw.at_mk KX G ?a ?l ?c ?k ?b
      (case a => k_is); (case l => k_is); (case c => k_is); (case k => k_is)
      (case b => exact fun _ _ _ _ _ _ us hl => match us, hl with | [_], _ => rfl)
    case A_long_word =>
      refine' Tw.at_mk KX G ?a ?l ?c ?k ?b
      (case a => k_is); (case l => k_is); (case c => k_is); (case k => k_is)
      (case b => exact fun _ _ _ _ _ _ us hl => match us, hl with | [_, _], _ => rfl)
    case A_need_fits =>
      refine' Tw.at_mk KX G ?a ?l ?c ?k ?b
      (case a => k_is); (case l => k_is); (case c => k_is); (case k => k_is)
      (case b => exact fun _ _ _ _ _ _ us hl => match us, hl with | [_, _], _ => rfl)
    case A_line_price =>
      refine' Tw.at_mk KX G ?a ?l ?c ?k ?b
      (case a => k_is); (case l => k_is); (case c => k_is); (case k => k_is)
      (case b => exact fun _ _ _ _ _ _ us hl => match us, hl with | [_, _, _, _], _ => rfl)
    case A_quick_starts =>
      refine' Tw.at_mk KX G ?a ?l ?c ?k ?b
      (case a => k_is); (case l => k_is); (case c => k_is); (case k => k_is)
      (case b => exact fun _ _ _ _ _ _ us hl => match us, hl with | [_, _], _ => rfl)
    case A_end_by =>
      refine' Tw.at_mk KX G ?a ?l ?c ?k ?b
      (case a => k_is); (case l => k_is); (case c => k_is); (case k => k_is)
      (case b => exact fun _ _ _ _ _ _ us hl => match us, hl with | [_, _, _, _], _ => rfl)
    case A_next_layer =>
      refine' Tw.at_mk KX G ?a ?l ?c ?k ?b
      (case a => k_is); (case l => k_is); (case c => k_is); (case k => k_is)
      (case b => exact fun _ _ _ _ _ _ us hl => match us, hl with | [_, _, _], _ => rfl)
    case A_layers_of =>
      refine' Tw.at_mk KX G ?a ?l ?c ?k ?b
      (case a => k_is); (case l => k_is); (case c => k_is); (case k => k_is)
      (case b => exact fun _ _ _ _ _ _ us hl => match us, hl with | [_, _, _], _ => rfl)
    case A_starts_in =>
      refine' Tw.at_mk KX G ?a ?l ?c ?k ?b
      (case a => k_is); (case l => k_is); (case c => k_is); (case k => k_is)
      (case b => exact fun _ _ _ _ _ _ us hl => match us, hl with | [_, _, _], _ => rfl)
    case A__law_cell_at =>
      refine' Tw.at_mk KX G ?a ?l ?c ?k ?b
      (case a => k_is); (case l => k_is); (case c => k_is); (case k => k_is)
      (case b => exact fun _ _ _ _ _ _ us hl => match us, hl with | [_, _], _ => rfl)
    case A__law_sign_by =>
      refine' Tw.at_mk KX G ?a ?l ?c ?k ?b
      (case a => k_is); (case l => k_is); (case c => k_is); (case k => k_is)
      (case b => exact fun _ _ _ _ _ _ us hl => match us, hl with | [_], _ => rfl)
    case A__law_word_by =>
      refine' Tw.at_mk KX G ?a ?l ?c ?k ?b
      (case a => k_is); (case l => k_is); (case c => k_is); (case k => k_is)
      (case b => exact fun _ _ _ _ _ _ us hl => match us, hl with | [_], _ => rfl)
    case A__law_whole =>
      refine' Tw.at_mk KX G ?a ?l ?c ?k ?b
      (case a => k_is); (case l => k_is); (case c => k_is); (case k => k_is)
      (case b => exact fun _ _ _ _ _ _ us hl => match us, hl with | [_], _ => rfl)
    case A__law_wholes =>
      refine' Tw.at_mk KX G ?a ?l ?c ?k ?b
      (case a => k_is); (case l => k_is); (case c => k_is); (case k => k_is)
      (case b => exact fun _ _ _ _ _ _ us hl => match us, hl with | [_], _ => rfl)
    case A__law_longest =>
      refine' Tw.at_mk KX G ?a ?l ?c ?k ?b
      (case a => k_is); (case l => k_is); (case c => k_is); (case k => k_is)
      (case b => exact fun _ _ _ _ _ _ us hl => match us, hl with | [_], _ => rfl)
    case A__law_size =>
      refine' Tw.at_mk KX G ?a ?l ?c ?k ?b
      (case a => k_is); (case l => k_is); (case c => k_is); (case k => k_is)
      (case b => exact fun _ _ _ _ _ _ us hl => match us, hl with | [_, _, _], _ => rfl)
    case A__law_alike_by =>
      refine' Tw.at_mk KX G ?a ?l ?c ?k ?b
      (case a => k_is); (case l => k_is); (case c => k_is); (case k => k_is)
      (case b => exact fun _ _ _ _ _ _ us hl => match us, hl with | [_, _], _ => rfl)
    case A__law_wide_by =>
      refine' Tw.at_mk KX G ?a ?l ?c ?k ?b
      (case a => k_is); (case l => k_is); (case c => k_is); (case k => k_is)
      (case b => exact fun _ _ _ _ _ _ us hl => match us, hl with | [_, _], _ => rfl)
    case A__law_words_by =>
      refine' Tw.at_mk KX G ?a ?l ?c ?k ?b
      (case a => k_is); (case l => k_is); (case c => k_is); (case k => k_is)
      (case b => exact fun _ _ _ _ _ _ us hl => match us, hl with | [_, _], _ => rfl)
    case A__law_width_by =>
      refine' Tw.at_mk KX G ?a ?l ?c ?k ?b
      (case a => k_is); (case l => k_is); (case c => k_is); (case k => k_is)
      (case b => exact fun _ _ _ _ _ _ us hl => match us, hl with | [_, _], _ => rfl)
    case A__law_price =>
      refine' Tw.at_mk KX G ?a ?l ?c ?k ?b
      (case a => k_is); (case l => k_is); (case c => k_is); (case k => k_is)
      (case b => exact fun _ _ _ _ _ _ us hl => match us, hl with | [_, _, _, _], _ => rfl)
    case A__law_sum =>
      refine' Tw.at_mk KX G ?a ?l ?c ?k ?b
      (case a => k_is); (case l => k_is); (case c => k_is); (case k => k_is)
      (case b => exact fun _ _ _ _ _ _ us hl => match us, hl with | [_, _, _], _ => rfl)
    case A__law_are_starts =>
      refine' Tw.at_mk KX G ?a ?l ?c ?k ?b
      (case a => k_is); (case l => k_is); (case c => k_is); (case k => k_is)
      (case b => exact fun _ _ _ _ _ _ us hl => match us, hl with | [_, _, _], _ => rfl)
    case A__law_others_by =>
      refine' Tw.at_mk KX G ?a ?l ?c ?k ?b
      (case a => k_is); (case l => k_is); (case c => k_is); (case k => k_is)
      (case b => exact fun _ _ _ _ _ _ us hl => match us, hl with | [_, _, _], _ => rfl)
    case A__law_in_lines =>
      refine' Tw.at_mk KX G ?a ?l ?c ?k ?b
      (case a => k_is); (case l => k_is); (case c => k_is); (case k => k_is)
      (case b => exact fun _ _ _ _ _ _ us hl => match us, hl with | [_, _, _, _], _ => rfl)
    case A__law_kind =>
      refine' Tw.at_mk KX G ?a ?l ?c ?k ?b
      (case a => k_is); (case l => k_is); (case c => k_is); (case k => k_is)
      (case b => exact fun _ _ _ _ _ _ us hl => match us, hl with | [_], _ => rfl)
    case A__law_refusal =>
      refine' Tw.at_mk KX G ?a ?l ?c ?k ?b
      (case a => k_is); (case l => k_is); (case c => k_is); (case k => k_is)
      (case b => exact fun _ _ _ _ _ _ us hl => match us, hl with | [_, _, _], _ => rfl)
    case A__law_all =>
      refine' Tw.at_mk KX G ?a ?l ?c ?k ?b
      (case a => k_is); (case l => k_is); (case c => k_is); (case k => k_is)
      (case b => exact fun _ _ _ _ _ _ us hl => match us, hl with | [_], _ => rfl)
    case A__law_near =>
      refine' Tw.at_mk KX G ?a ?l ?c ?k ?b
      (case a => k_is); (case l => k_is); (case c => k_is); (case k => k_is)
      (case b => exact fun _ _ _ _ _ _ us hl => match us, hl with | [_, _], _ => rfl)
    case A__law_beaten =>
      refine' Tw.at_mk KX G ?a ?l ?c ?k ?b
      (case a => k_is); (case l => k_is); (case c => k_is); (case k => k_is)
      (case b => exact fun _ _ _ _ _ _ us hl => match us, hl with | [_, _, _, _], _ => rfl)
    case A__law_many_by =>
      refine' Tw.at_mk KX G ?a ?l ?c ?k ?b
      (case a => k_is); (case l => k_is); (case c => k_is); (case k => k_is)
      (case b => exact fun _ _ _ _ _ _ us hl => match us, hl with | [_, _, _, _], _ => rfl)
    case A_law =>
      refine' Tw.lawat_mk KX G hmg ?a ?l ?c ?k ?b
      (case a => k_is); (case l => k_is); (case c => k_is); (case k => k_is)
      (case b => exact fun _ _ _ _ _ _ s v => .of_eq rfl)
