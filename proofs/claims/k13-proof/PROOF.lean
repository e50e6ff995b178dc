import PyProof.Rows.All
import Wide.All
import OpenK.AllK
import Wide.FinOn
import PyProof.StrOps2
import PyProof.Rows.RuleB_pow
import HandS.ForMost
import HandS.ForExc
import HandS.IsInst
import HandS.RevRange
import HandS.Wide
import HandS.Style
import HandS.Codes
import HandS.Flow
import HandS.Steps
import HandS.ExcCtx
import HandS.HotCalls
import HandS.ExcIs
import PyProof.SumWalkG
import PyProof.WalkInts
import PyProof.Walks
import HandS.Hot
import KE.LtSeq
import PySem.Challenge.RW_textwrapper_k13_whole_text_squared
set_option Elab.async false
set_option linter.all false
set_option maxRecDepth 100000
set_option maxHeartbeats 4000000
namespace Tw
open PySem PySem.Spec PyProof.Rows L2

/-! ### texts as lists of codes -/
def tx (l : List Nat) : Str := ⟨l.toArray⟩
abbrev vt (l : List Nat) : V := .str (tx l)
abbrev vts (ws : List (List Nat)) : List V := ws.map vt
abbrev vis (ns : List Int) : List V := ns.map V.int
theorem tx_inj {a b : List Nat} (h : tx a = tx b) : a = b := by
  have h2 := congrArg (fun s => s.cps.toList) h
  simpa [tx] using h2
theorem vt_inj {a b : List Nat} : vt a = vt b ↔ a = b :=
  ⟨fun h => tx_inj (V.str.inj h), fun h => by rw [h]⟩
theorem tx_app (a b : List Nat) : tx a ++ tx b = tx (a ++ b) := by
  show (⟨a.toArray ++ b.toArray⟩ : Str) = ⟨(a ++ b).toArray⟩
  simp
theorem tx_len (a : List Nat) : (tx a).length = a.length := by
  show a.toArray.size = _
  simp
theorem tx_list (a : List Nat) : (tx a).cps.toList = a := by
  show a.toArray.toList = a
  simp
theorem tx_size (a : List Nat) : (tx a).cps.size = a.length := by
  show a.toArray.size = _
  simp
theorem tx_get (a : List Nat) (i : Nat) : (tx a).cps[i]? = a[i]? := by
  show a.toArray[i]? = _
  simp
theorem tx_sign (c : Nat) : (⟨#[c]⟩ : Str) = tx [c] := rfl
theorem str_tx (s : Str) : s = tx s.cps.toList := by
  obtain ⟨l⟩ := s
  rfl
theorem vts_inj {a b : List (List Nat)} (h : vts a = vts b) : a = b :=
  (List.map_inj_right (fun x y e => vt_inj.mp e)).mp h
theorem vis_inj {a b : List Int} (h : vis a = vis b) : a = b :=
  (List.map_inj_right (fun x y e => V.int.inj e)).mp h
theorem dec_vt {a b : List Nat} : decide (vt a = vt b) = decide (a = b) := by
  by_cases h : a = b
  · rw [decide_eq_true h, decide_eq_true (vt_inj.mpr h)]
  · rw [decide_eq_false h, decide_eq_false (fun e => h (vt_inj.mp e))]
theorem dec_vi {a b : Int} : decide (V.int a = V.int b) = decide (a = b) := by
  by_cases h : a = b
  · rw [decide_eq_true h, decide_eq_true (by rw [h])]
  · rw [decide_eq_false h, decide_eq_false (fun e => h (V.int.inj e))]

/-! ### heaps -/
theorem _root_.L2.Same.new {H H1 : Hp} {p : Addr} {o : HO} (s : Same H H1) (n : H1 p = none) : Same H (upd H1 p o) := fun b x e => by
  rw [upd_ne (ne_of_none (s b x e) n)]
  exact s b x e
/-- a store to what was made behind H -/
theorem _root_.L2.Same.put {H H1 : Hp} {p : Addr} {o : HO} (s : Same H H1) (n : H p = none) : Same H (upd H1 p o) := fun b x e => by
  rw [upd_ne (ne_of_none e n)]
  exact s b x e
theorem kept {H : Hp} {p q : Addr} {x o : HO} (h : H q = some x) (n : H p = none) : upd H p o q = some x := by
  rw [upd_ne (ne_of_none h n)]
  exact h
theorem _root_.L2.Same.seqT {K : PySem.W.Frag} {H H' : Hp} {a : Addr} {xs : List V} (e : Same H H') (h : SqT K H a xs) : SqT K H' a xs := by
  rcases h with (h | ⟨o, h⟩) | h
  · exact .inl (.inl (e _ _ h))
  · exact .inl (.inr ⟨o, e _ _ h⟩)
  · exact .inr h

/-! ### the built-in names that the text does not bind -/
structure Bts (mg : Str → Option Value) : Prop where
  m_len : mg "len" = none
  m_range : mg "range" = none
  m_max : mg "max" = none
  m_sum : mg "sum" = none
  m_int : mg "int" = none
  m_bool : mg "bool" = none
  m_str : mg "str" = none
  m_list : mg "list" = none
  m_isinstance : mg "isinstance" = none
  m_sorted : mg "sorted" = none
  m_reversed : mg "reversed" = none
  m_ValueError : mg "ValueError" = none

/-! ### a def of the text -/
structure At (K : PySem.W.Frag) (mg : Str → Option Value) (x : Str) (ps : List Str) (st : Stmt) : Prop where
  ex : ∃ f fd, mg x = some (.ref f) ∧ Fun K x x st f fd ∧ Binds K fd ps []
structure Ok (P : Program) (w : World) (K : PySem.W.Frag) (mg : Str → Option Value) (base : Heap) (CX : CXT) (k : Nat) (x : Str) (ps : List Str) (sp : Sp) : Prop where
  ex : ∃ f fd, mg x = some (.ref f) ∧ PySem.W.keepIn K (.ref f) = true ∧ Binds K fd ps [] ∧ FnOk P w K mg base CX k f fd ps sp
section
variable {P : Program} {w : World} {K : PySem.W.Frag} {mg : Str → Option Value} {base : Heap}
theorem At.ok {x : Str} {ps N : List Str} {st : Stmt} {k : Nat} {sp : Sp} (A : At K mg x ps st) (S : FnScope N ps (defScope st))
    (len : ∀ vs H Q E, sp vs H Q E → vs.length = ps.length)
    (hbody : ∀ (f cdv : _) (A : Around) (outer : List Env) (s : Shared) (H : Hp) (vs : List V) (Q : VK) (E : XK),
      Room k (A.deeper (envOfC x (defScope st) s.heap.objs.size f cdv)) → sp vs H Q E →
      ∃ t, PSs (cxOf CX0 P w K mg base N x (defScope st) f cdv A outer s H E).nox (defBody st) t ∧
        t { nx := fun _ H' => Q .non H', rt := Q } (start N vs) H) :
    Ok P w K mg base CX0 (k + 1) x ps sp := by
  obtain ⟨f, fd, g, F, b⟩ := A.ex
  exact ⟨f, fd, g, F.kp, b, F.ok S len (hbody f)⟩
/-- a call of it -/
theorem pe_cd {X : Cx} {CX : CXT} {k : Nat} {x : Str} {ps : List Str} {sp : Sp} {E : XK} {e : Expr} {es : List Expr} {t : TA} {p pos : Pos}
    (G : Ok X.prog X.w X.K X.mg X.base CX k x ps sp) (hr : Room k X.A) (hx : Passes CX X E) (ha : PA X (e :: es) t)
    (hg : Gl X x := by rfl) (hdb : (x == ("__debug__" : Str)) = false := by decide)
    (he : starEach (e :: es) X.env = (false, eval e X.env) :: starEach es X.env := by rfl)
    (hpl : (backTo pos (starEach es X.env)).any (·.1) = false := by rfl) :
    PE X (.Call (.Name x p) (e :: es) [] pos) (tCall sp [] E t) := by
  obtain ⟨f, fd, g, kp, b, F⟩ := G.ex
  exact pe_call F hr hg g kp b .nil hx ha hdb he hpl
/-- .. the wish of an exception at the caller's slots -/
theorem pe_cdS {X : Cx} {CX : CXT} {k : Nat} {x : Str} {ps : List Str} {sp : Sp} {E : L2.St → XK} {e : Expr} {es : List Expr} {t : TA} {p pos : Pos}
    (G : Ok X.prog X.w X.K X.mg X.base CX k x ps sp) (hr : Room k X.A) (hx : ∀ σ, PassesAt CX X σ (E σ)) (ha : PA X (e :: es) t)
    (hg : Gl X x := by rfl) (hdb : (x == ("__debug__" : Str)) = false := by decide)
    (he : starEach (e :: es) X.env = (false, eval e X.env) :: starEach es X.env := by rfl)
    (hpl : (backTo pos (starEach es X.env)).any (·.1) = false := by rfl) :
    PE X (.Call (.Name x p) (e :: es) [] pos) (tCallS sp E t) := by
  obtain ⟨f, fd, g, kp, b, F⟩ := G.ex
  exact pe_callS F hr hg g kp b hx ha hdb he hpl
end
theorem Ok.mono {P : Program} {w : World} {K : PySem.W.Frag} {mg : Str → Option Value} {base : Heap} {CX : CXT} {j k : Nat} {x : Str} {ps : List Str} {sp : Sp}
    (G : Ok P w K mg base CX j x ps sp) (h : j ≤ k) : Ok P w K mg base CX k x ps sp := by
  obtain ⟨f, fd, g, kp, b, F⟩ := G.ex
  exact ⟨f, fd, g, kp, b, F.mono h⟩
/-! ### rules that name the written part, for comprehensions -/
section
variable {X : Cx}
theorem ix_listK (K : PySem.W.Frag) (h : X.K = K := by rfl) : IxR X (rIxL K) := by subst h; exact ix_list
theorem ix_tupK (K : PySem.W.Frag) (h : X.K = K := by rfl) : IxR X (rIxT K) := by subst h; exact ix_tup
theorem sl_listK (K : PySem.W.Frag) (h : X.K = K := by rfl) : SlR X (rSlL K) := by subst h; exact sl_list
def rLenK (K : PySem.W.Frag) : List V → Hp → VK → Prop := fun xs H Q => ∃ p ys, xs = [.ref p] ∧ (SqL K H p ys ∨ SqT K H p ys) ∧ Q (.int (ys.length : Nat)) H
theorem call_lenK (K : PySem.W.Frag) (h : X.K = K := by rfl) : CallR X (.builtin "len") (rLenK K) := by subst h; exact call_len_seq
theorem op_notInK (K : PySem.W.Frag) (h : X.K = K := by rfl) : OpR X (compareOp .NotIn) (rIn K true) := by subst h; exact op_notIn_seq
def rJoin (K : PySem.W.Frag) : V → List V → Hp → VK → Prop := fun x xs H Q => ∃ a p, ∃ ys : List Str, x = .str a ∧ xs = [.ref p] ∧ (SqL K H p (ys.map V.str) ∨ SqT K H p (ys.map V.str)) ∧
  (ys.map (·.length)).sum + ys.length * a.length ≤ 16777216 ∧ Q (.str (Txt.join a ys)) H
theorem pe_joinK {o e : Expr} {to te : TE} {apos pos : Pos} (K : PySem.W.Frag) (ho : PE X o to) (he : PE X e te) (h : X.K = K := by rfl)
    (hs : starEach [e] X.env = [(false, eval e X.env)] := by rfl) (hbase : attributeBase o "join" X.env (eval o X.env) = eval o X.env := by rfl)
    (hline : (apos.endLine == pos.line) = true := by rfl) : PE X (.Call (.Attribute o "join" apos) [e] [] pos) (tM1 (rJoin K) to te) := by
  subst h
  exact pe_join ho he hs hbase hline
end
/-! ### operators that the layer lacks -/
/-- text * int -/
theorem op_mulS {X : Cx} : OpR X (binaryOp .Mult) (fun x y H Q => ∃ (l : List Nat) (n : Int), x = vt l ∧ y = .int n ∧
    -(2 ^ 63) ≤ n ∧ n < 2 ^ 63 ∧ l.length * n.toNat ≤ sizeLine ∧ Q (vt (List.replicate n.toNat l).flatten) H) := by
  intro pins s σ H x y v u Q I rx ry h
  obtain ⟨l, n, rfl, rfl, h1, h2, hz, q⟩ := h
  obtain ⟨t, rfl⟩ := rx
  obtain ⟨t', rfl⟩ := ry
  have hsl : sizeLine = 16777216 := sizeLine_eq
  have fin : ∀ (z : Str) (tk : Nat) (t0 : Tok), z = tx (List.replicate n.toNat l).flatten → EP X pins σ Q (.str z t0) { s with toks := tk } := fun z tk t0 e => by
    subst e
    exact ⟨vt (List.replicate n.toNat l).flatten, H, I.tok tk, ⟨_, rfl⟩, q⟩
  have ffold : ∀ (m : Nat) (acc : List Nat), (List.replicate m l.toArray).foldl (· ++ ·) acc.toArray = (acc ++ (List.replicate m l).flatten).toArray := by
    intro m
    induction m with
    | zero => intro acc; simp
    | succ m ih =>
      intro acc
      rw [List.replicate_succ, List.foldl_cons, List.append_toArray, ih, List.replicate_succ, List.flatten_cons, List.append_assoc]
  refine PySem.P.mul_str ?_ (fun a b => ?_) (fun a b => ?_) ?_
  · rw [decide_eq_false (by omega), decide_eq_false (by omega)]; rfl
  · rw [tx_len]
    have hn : 1 ≤ n := by omega
    have : (l.length : Int) * n ≤ 16777216 := by
      rw [hsl] at hz
      have e : ((n.toNat : Nat) : Int) = n := Int.toNat_of_nonneg (by omega)
      have hz2 : ((l.length * n.toNat : Nat) : Int) ≤ ((16777216 : Nat) : Int) := Int.ofNat_le.mpr hz
      rw [Int.natCast_mul, e] at hz2
      omega
    intro hgt
    have : (2 ^ 63 - 1 : Int) / n < l.length := hgt
    have h3 := (Int.ediv_lt_iff_lt_mul (a := 2 ^ 63 - 1) (b := (l.length : Int)) (c := n) (by omega)).mp this
    omega
  · rw [tx_len]
    show decide _ = false
    exact decide_eq_false (Nat.not_lt.mpr hz)
  · by_cases a : n < 1
    · rw [if_pos a]
      have e0 : n.toNat = 0 := by omega
      refine ⟨by decide, ?_⟩
      exact fin _ _ _ (by rw [e0]; rfl)
    · rw [if_neg a]
      by_cases b : (n == 1 || (tx l).length == 0) = true
      · rw [if_pos b]
        have e1 : (List.replicate n.toNat l).flatten = l := by
          rcases Bool.or_eq_true_iff.mp b with b | b
          · have : n = 1 := eq_of_beq b
            subst this
            simp
          · have : l = [] := by
              have := eq_of_beq b
              rw [tx_len] at this
              exact List.length_eq_zero_iff.mp this
            subst this
            simp
        show EP X pins σ Q (.str (tx l) t) s
        exact fin (tx l) s.toks t (by rw [e1])
      · rw [if_neg b]
        have e2 : (⟨(List.replicate n.toNat (tx l).cps).foldl (· ++ ·) #[]⟩ : Str) = tx (List.replicate n.toNat l).flatten := by
          have := ffold n.toNat []
          show (⟨(List.replicate n.toNat l.toArray).foldl (· ++ ·) #[]⟩ : Str) = ⟨(List.replicate n.toNat l).flatten.toArray⟩
          rw [show (#[] : Array Nat) = ([] : List Nat).toArray from rfl, this]
          rfl
        have e3 : (List.replicate n.toNat l).flatten.length ≤ sizeLine := by
          rw [List.length_flatten, List.map_replicate, List.sum_replicate_nat, Nat.mul_comm]
          exact hz
        rw [e2]
        first
          | exact ⟨by rw [tx_len]; exact e3, fin _ _ _ rfl⟩
          | exact fin _ _ _ rfl
/-- powers of numbers of a known size -/
theorem op_powW {X : Cx} : OpR X (binaryOp .Pow) (fun x y H Q => ∃ i j : Int, x = .int i ∧ y = .int j ∧ 0 ≤ j ∧ (Builtin.Int.intBits i : Int) * j ≤ 2 ^ 27 ∧ Q (.int (i ^ j.toNat)) H) := by
  intro pins s σ H x y v u Q I rx ry h
  obtain ⟨i, j, rfl, rfl, h1, h2, q⟩ := h
  obtain ⟨t, rfl⟩ := rx
  obtain ⟨t', rfl⟩ := ry
  exact PyProof.Rows.pow_int h1 h2 ⟨.int _, H, I.tok _, ⟨_, rfl⟩, q⟩

/-! ### == of lists of ints and texts -/
def flat : V → Bool
  | .int _ => true
  | .str z => PyData.strOk z
  | _ => false
def pd : V → PyData
  | .int i => .int i
  | .str z => .str z
  | _ => .none
theorem pd_eqv : ∀ {a b : V}, flat a = true → flat b = true → PyData.eqv (pd a) (pd b) = decide (a = b) := by
  intro a b ha hb
  cases a <;> first | exact absurd ha Bool.false_ne_true | skip
  all_goals (cases b <;> first | exact absurd hb Bool.false_ne_true | skip)
  · rename_i i j
    show (i == j) = _
    rw [dec_vi, Bool.beq_eq_decide_eq]
  · simp [pd, PyData.eqv]
  · simp [pd, PyData.eqv]
  · rename_i i j
    show (i == j) = _
    rw [Bool.beq_eq_decide_eq]
    by_cases e : i = j
    · subst e; simp
    · rw [decide_eq_false e, decide_eq_false (fun z => e (V.str.inj z))]
theorem pd_eqvAll : ∀ {xs ys : List V}, xs.all flat = true → ys.all flat = true → PyData.eqvAll (xs.map pd) (ys.map pd) = decide (xs = ys) := by
  intro xs
  induction xs with
  | nil =>
    intro ys _ _
    cases ys with
    | nil => simp [PyData.eqvAll]
    | cons y r => simp [PyData.eqvAll]
  | cons x r ih =>
    intro ys hx hy
    cases ys with
    | nil => simp [PyData.eqvAll]
    | cons y q =>
      simp only [List.all_cons, Bool.and_eq_true] at hx hy
      show (PyData.eqv (pd x) (pd y) && PyData.eqvAll (r.map pd) (q.map pd)) = _
      rw [pd_eqv hx.1 hy.1, ih hx.2 hy.2]
      by_cases e1 : x = y
      · by_cases e2 : r = q
        · subst e1 e2; simp
        · simp [e2]
      · simp [e1]
theorem dpAll {K : PySem.W.Frag} {H : Hp} : ∀ {xs : List V}, xs.all flat = true → DpAll K H xs (xs.map pd) := by
  intro xs
  induction xs with
  | nil => intro _; exact .nil
  | cons x r ih =>
    intro h
    simp only [List.all_cons, Bool.and_eq_true] at h
    refine .cons ?_ (ih h.2)
    have h1 := h.1
    cases x <;> first | exact absurd h1 Bool.false_ne_true | skip
    · exact .int _
    · exact .str _
theorem pd_lay : ∀ {x : V}, flat x = true → (pd x).canLay0 = true ∧ (pd x).depth = 0 := by
  intro x h
  cases x <;> first | exact absurd h Bool.false_ne_true | skip
  · exact ⟨by simp [pd, PyData.canLay0], by simp [pd, PyData.depth]⟩
  · exact ⟨by simp only [pd, PyData.canLay0]; exact h, by simp [pd, PyData.depth]⟩
theorem pd_layAll : ∀ {xs : List V}, xs.all flat = true → PyData.canLayAll0 (xs.map pd) = true ∧ PyData.depthAll (xs.map pd) = 0 := by
  intro xs
  induction xs with
  | nil => intro _; exact ⟨by simp [PyData.canLayAll0], by simp [PyData.depthAll]⟩
  | cons x r ih =>
    intro h
    simp only [List.all_cons, Bool.and_eq_true] at h
    obtain ⟨h1, h2⟩ := pd_lay h.1
    obtain ⟨h3, h4⟩ := ih h.2
    exact ⟨by simp [PyData.canLayAll0, h1, h3], by simp [PyData.depthAll, h2, h4]⟩
theorem pd_shaped {xs : List V} (h : xs.all flat = true) : SeqAt.shaped (.list (xs.map pd)) = true := by
  obtain ⟨h1, h2⟩ := pd_layAll h
  simp [SeqAt.shaped, PyData.canLay0, PyData.depth, h1, h2]
def rEqL (K : PySem.W.Frag) : R2 := fun x y H Q => ∃ a b xs ys, x = .ref a ∧ y = .ref b ∧ SqL K H a xs ∧ SqL K H b ys ∧ xs.all flat = true ∧ ys.all flat = true ∧ Q (.bl (decide (xs = ys))) H
def rNeL (K : PySem.W.Frag) : R2 := fun x y H Q => ∃ a b xs ys, x = .ref a ∧ y = .ref b ∧ SqL K H a xs ∧ SqL K H b ys ∧ xs.all flat = true ∧ ys.all flat = true ∧ Q (.bl (!decide (xs = ys))) H
theorem op_eqL {X : Cx} {k : Nat} (hr : Room k X.A) : OpR X (compareOp .Eq) (rEqL X.K) := by
  intro pins s σ H x y v u Q I rx ry h
  obtain ⟨a, b, xs, ys, rfl, rfl, ha, hb, fa, fb, q⟩ := h
  refine op_eqD hr.units pins s σ H _ _ v u Q I rx ry ⟨_, _, .lst ha (dpAll fa), .lst hb (dpAll fb), pd_shaped fa, pd_shaped fb, ?_⟩
  show Q (.bl (PyData.eqvAll _ _)) H
  rw [pd_eqvAll fa fb]
  exact q
theorem op_neL {X : Cx} {k : Nat} (hr : Room k X.A) : OpR X (compareOp .NotEq) (rNeL X.K) := by
  intro pins s σ H x y v u Q I rx ry h
  obtain ⟨a, b, xs, ys, rfl, rfl, ha, hb, fa, fb, q⟩ := h
  refine op_neD hr.units pins s σ H _ _ v u Q I rx ry ⟨_, _, .lst ha (dpAll fa), .lst hb (dpAll fb), pd_shaped fa, pd_shaped fb, ?_⟩
  show Q (.bl (!PyData.eqvAll _ _)) H
  rw [pd_eqvAll fa fb]
  exact q
theorem flat_vis (ns : List Int) : (vis ns).all flat = true := by
  simp [flat]
end Tw
namespace Tw
open PySem PySem.Spec PyProof.Rows L2
/-! ### loops by what is done and what is to come -/
theorem split_at {α : Type} {l : List α} {i : Nat} {c : α} (h : l[i]? = some c) : l = l.take i ++ c :: l.drop (i + 1) ∧ l.drop i = c :: l.drop (i + 1) ∧ l.take (i + 1) = l.take i ++ [c] := by
  obtain ⟨hi, e⟩ := List.getElem?_eq_some_iff.mp h
  have d : l.drop i = c :: l.drop (i + 1) := by
    rw [List.drop_eq_getElem_cons hi, e]
  refine ⟨?_, d, ?_⟩
  · rw [← d, List.take_append_drop]
  · rw [List.take_add_one, h]; rfl
/-- over the signs of a text -/
theorem for_txt {l : List Nat} {g : TG} {tb : TS} {D : Ends} {σ : L2.St} {H : Hp} (Pv : List Nat → List Nat → L2.St → Hp → Prop) (h0 : Pv [] l σ H)
    (hs : ∀ a c b σ H, l = a ++ c :: b → Pv a (c :: b) σ H → g (vt [c]) σ H fun σ2 H2 => tb { D with nx := Pv (a ++ [c]) b, ct := Pv (a ++ [c]) b, bk := D.nx } σ2 H2)
    (hd : ∀ σ H, Pv l [] σ H → D.nx σ H) :
    ∃ W : Nat → Nat → L2.St → Hp → Prop, (∃ m, W 0 m σ H) ∧ ∀ i m σ H, W i m σ H →
      ((Its (tx l)).stop i H ∧ D.nx σ H) ∨ ((Its (tx l)).go i H ∧ ∃ N : L2.St → Hp → Prop, (∀ σ' H', N σ' H' → ∃ m', m' < m ∧ W (i + 1) m' σ' H') ∧
        ∀ x H', (Its (tx l)).yld i H x H' → g x σ H' fun σ2 H2 => tb { D with nx := N, ct := N, bk := D.nx } σ2 H2) := by
  refine ⟨fun i m σ H => m = l.length - i ∧ i ≤ l.length ∧ Pv (l.take i) (l.drop i) σ H, ⟨l.length, by simp, Nat.zero_le _, by simpa using h0⟩, ?_⟩
  rintro i m σ H ⟨rfl, hi, p⟩
  by_cases hlt : i < l.length
  · have hc : l[i]? = some l[i] := List.getElem?_eq_getElem hlt
    obtain ⟨e1, e2, e3⟩ := split_at hc
    refine .inr ⟨?_, Pv (l.take i ++ [l[i]]) (l.drop (i + 1)), fun σ' H' p' => ⟨l.length - (i + 1), by omega, rfl, hlt, ?_⟩, fun x H' y => ?_⟩
    · show i < (tx l).cps.size
      rw [tx_size]; exact hlt
    · rw [e3]; exact p'
    · obtain ⟨e, c, hc', rfl⟩ := y
      subst e
      rw [tx_get, hc] at hc'
      have ec := Option.some.inj hc'
      subst ec
      rw [e2] at p
      exact hs (l.take i) l[i] (l.drop (i + 1)) σ _ e1 p
  · have e : i = l.length := by omega
    subst e
    refine .inl ⟨?_, hd σ H ?_⟩
    · show (tx l).cps.size ≤ l.length
      rw [tx_size]; exact Nat.le_refl _
    · simpa using p
/-- over a list that the body leaves as it is; the items by f -/
theorem for_lst {α : Type} {f : α → V} {K : PySem.W.Frag} {a : Addr} {l : List α} {g : TG} {tb : TS} {D : Ends} {σ : L2.St} {H : Hp} (Pv : List α → List α → L2.St → Hp → Prop) (h0 : Pv [] l σ H)
    (hl : ∀ d r σ H, Pv d r σ H → SqL K H a (l.map f))
    (hs : ∀ d c b σ H, l = d ++ c :: b → Pv d (c :: b) σ H → g (f c) σ H fun σ2 H2 => tb { D with nx := Pv (d ++ [c]) b, ct := Pv (d ++ [c]) b, bk := D.nx } σ2 H2)
    (hd : ∀ σ H, Pv l [] σ H → D.nx σ H) :
    ∃ W : Nat → Nat → L2.St → Hp → Prop, (∃ m, W 0 m σ H) ∧ ∀ i m σ H, W i m σ H →
      ((Itl K a).stop i H ∧ D.nx σ H) ∨ ((Itl K a).go i H ∧ ∃ N : L2.St → Hp → Prop, (∀ σ' H', N σ' H' → ∃ m', m' < m ∧ W (i + 1) m' σ' H') ∧
        ∀ x H', (Itl K a).yld i H x H' → g x σ H' fun σ2 H2 => tb { D with nx := N, ct := N, bk := D.nx } σ2 H2) := by
  refine for_list (xs := l.map f) (fun i σ H => Pv (l.take i) (l.drop i) σ H) (by simpa using h0) (fun i σ H _ p => hl _ _ _ _ p) (fun i x σ H hx p => ?_) (fun σ H p => hd σ H (by simpa using p))
  rw [List.getElem?_map] at hx
  cases hc : l[i]? with
  | none => rw [hc] at hx; cases hx
  | some c =>
    rw [hc] at hx
    have ex : f c = x := Option.some.inj hx
    subst ex
    obtain ⟨e1, e2, e3⟩ := split_at hc
    rw [e2] at p
    rw [e3]
    exact hs _ _ _ σ H e1 p

theorem last_eq {α : Type} {l d : List α} {a c : α} (h : l ++ [a] = d ++ [c]) : a = c := by
  have := (List.append_inj' h rfl).2
  exact (List.cons.inj this).1
theorem vts_app (ws : List (List Nat)) (h : List Nat) : vts (ws ++ [h]) = vts ws ++ [vt h] := List.map_append
theorem vis_app (ws : List Int) (h : Int) : vis (ws ++ [h]) = vis ws ++ [.int h] := List.map_append
theorem flat_get {α : Type} {f : α → V} {l : List α} {i : Nat} {x : α} (h : l[i]? = some x) : (l.map f)[i]? = some (f x) := by
  rw [List.getElem?_map, h]; rfl
/-! ### literals -/
theorem lit_sp : PySem.Str.ofString " " = tx [32] := by decide +kernel
theorem lit_nl : PySem.Str.ofString "\n" = tx [10] := by decide +kernel
theorem lit_nil : PySem.Str.ofString "" = tx [] := by decide +kernel
theorem ne_vt {a b : List Nat} {x : Str} (e : x = tx b) : (!decide (vt a = V.str x)) = !decide (a = b) := by
  rw [e, dec_vt]
theorem ne_sg {a b : Nat} {x : Str} (e : x = tx [b]) : (!decide (vt [a] = V.str x)) = !decide (a = b) := by
  rw [ne_vt e]
  simp
theorem sz {n : Nat} (h : n ≤ 16777216 := by omega) : n ≤ sizeLine := by
  rw [sizeLine_eq]; exact h
theorem szl {n : Nat} (h : n < 16777216 := by omega) : n < sizeLine := by
  rw [sizeLine_eq]; exact h
/-! ### tests -/
theorem tst {b : Bool} {c A B : Prop} [Decidable c] (e : b = decide c) (h1 : c → A) (h2 : ¬ c → B) : if b = true then A else B := by
  subst e
  by_cases h : c
  · rw [if_pos (decide_eq_true h)]; exact h1 h
  · rw [if_neg (by simpa using h)]; exact h2 h
theorem tsn {b : Bool} {c A B : Prop} [Decidable c] (e : b = !decide c) (h1 : ¬ c → A) (h2 : c → B) : if b = true then A else B := by
  subst e
  by_cases h : c
  · rw [if_neg (by simpa using h)]; exact h2 h
  · rw [if_pos (by simpa using h)]; exact h1 h
/-! ### slices -/
theorem cut_from {α : Type} (f : α → V) (l : List α) (k : Nat) : cutV (l.map f) (some (k : Int)) none = (l.drop k).map f := by
  unfold cutV
  rw [show HT.sIx (l.map f).length 0 (some (k : Int)) = min k (l.map f).length from HT.sIx_nat _ 0 k, HT.sIx_none, List.length_map, List.map_drop]
  by_cases h : k ≤ l.length
  · rw [Nat.min_eq_left h, List.take_of_length_le (by simp)]
  · have h2 : l.length ≤ k := by omega
    rw [Nat.min_eq_right h2, List.drop_of_length_le (by simp), List.drop_of_length_le (by simpa using h2)]
    simp
theorem cut_to {α : Type} (f : α → V) (l : List α) (k : Nat) : cutV (l.map f) none (some (k : Int)) = (l.take k).map f := by
  unfold cutV
  rw [show HT.sIx (l.map f).length (l.map f).length (some (k : Int)) = min k (l.map f).length from HT.sIx_nat _ _ k, HT.sIx_none, List.length_map, List.map_take, List.drop_zero, Nat.sub_zero]
  by_cases h : k ≤ l.length
  · rw [Nat.min_eq_left h]
  · have h2 : l.length ≤ k := by omega
    rw [Nat.min_eq_right h2, List.take_of_length_le (by simp), List.take_of_length_le (by simpa using h2)]
theorem cut_ft {α : Type} (f : α → V) (l : List α) (a b : Nat) : cutV (l.map f) (some (a : Int)) (some (b : Int)) = ((l.drop a).take (b - a)).map f := by
  unfold cutV
  rw [show HT.sIx (l.map f).length (l.map f).length (some (b : Int)) = min b (l.map f).length from HT.sIx_nat _ _ b, show HT.sIx (l.map f).length 0 (some (a : Int)) = min a (l.map f).length from HT.sIx_nat _ _ a, List.length_map, List.map_take, List.map_drop]
  by_cases ha : a ≤ l.length
  · rw [Nat.min_eq_left ha]
    by_cases hb : b ≤ l.length
    · rw [Nat.min_eq_left hb]
    · have h1 : (List.drop a (List.map f l)).length ≤ min b l.length - a := by
        rw [List.length_drop, List.length_map]; omega
      have h2 : (List.drop a (List.map f l)).length ≤ b - a := by
        rw [List.length_drop, List.length_map]; omega
      rw [List.take_of_length_le h1, List.take_of_length_le h2]
  · have h1 : List.drop (min a l.length) (List.map f l) = [] := List.drop_of_length_le (by rw [List.length_map]; omega)
    have h2 : List.drop a (List.map f l) = [] := List.drop_of_length_le (by rw [List.length_map]; omega)
    rw [h1, h2, List.take_nil, List.take_nil]
theorem le_sum_mem : ∀ {l : List Nat} {x : Nat}, x ∈ l → x ≤ l.sum
  | a :: r, x, h => by
    rw [List.sum_cons]
    rcases List.mem_cons.mp h with e | h
    · omega
    · have := le_sum_mem h; omega
/-! ### words -/
def wcut (h : List Nat) : List Nat → List (List Nat)
  | [] => if h = [] then [] else [h]
  | c :: r => if c = 32 ∨ c = 10 then (if h = [] then wcut [] r else h :: wcut [] r) else wcut (h ++ [c]) r
theorem wcut_b {c : Nat} {r : List Nat} (h : c = 32 ∨ c = 10) : wcut [] (c :: r) = wcut [] r := by
  simp only [wcut]; rw [if_pos h]; simp
theorem wcut_w {c : Nat} {r h : List Nat} (n : h ≠ []) (hc : c = 32 ∨ c = 10) : wcut h (c :: r) = h :: wcut [] r := by
  simp only [wcut]; rw [if_pos hc, if_neg n]
theorem wcut_s {c : Nat} {r h : List Nat} (hc : ¬ (c = 32 ∨ c = 10)) : wcut h (c :: r) = wcut (h ++ [c]) r := by
  simp only [wcut]; rw [if_neg hc]
theorem wcut_e {h : List Nat} (n : h ≠ []) : wcut h [] = [h] := by
  simp only [wcut]; rw [if_neg n]
theorem wcut_blank : ∀ (l h : List Nat), wcut h (l ++ [32]) = wcut h l
  | [], h => by simp [wcut]
  | c :: r, h => by
    simp only [List.cons_append, wcut]
    rw [wcut_blank r [], wcut_blank r (h ++ [c])]
theorem wcut_length : ∀ (l h : List Nat), (wcut h l).length ≤ l.length + 1
  | [], h => by simp only [wcut]; split <;> simp
  | c :: r, h => by
    simp only [wcut]
    have h1 := wcut_length r []
    have h2 := wcut_length r (h ++ [c])
    simp only [List.length_cons]
    split
    · split
      · omega
      · simp only [List.length_cons]; omega
    · omega
/-- what is in the words is in the text -/
theorem wcut_mem : ∀ (l h : List Nat) {x : List Nat} {c : Nat}, x ∈ wcut h l → c ∈ x → c ∈ h ∨ (c ∈ l ∧ c ≠ 32 ∧ c ≠ 10)
  | [], h, x, c, hx, hc => by
    simp only [wcut] at hx
    split at hx
    · cases hx
    · rw [List.mem_singleton.mp hx] at hc; exact .inl hc
  | d :: r, h, x, c, hx, hc => by
    simp only [wcut] at hx
    have up : ∀ {q : List Nat}, (c ∈ q ∨ (c ∈ r ∧ c ≠ 32 ∧ c ≠ 10)) → c ∈ q ∨ (c ∈ d :: r ∧ c ≠ 32 ∧ c ≠ 10) := fun z => z.imp id fun z => ⟨List.mem_cons_of_mem _ z.1, z.2⟩
    split at hx
    · split at hx
      · rcases up (wcut_mem r [] hx hc) with z | z
        · cases z
        · exact .inr z
      · rcases List.mem_cons.mp hx with e | hx
        · rw [e] at hc; exact .inl hc
        · rcases up (wcut_mem r [] hx hc) with z | z
          · cases z
          · exact .inr z
    · rename_i hd
      rcases wcut_mem r (h ++ [d]) hx hc with z | z
      · rcases List.mem_append.mp z with z | z
        · exact .inl z
        · rw [List.mem_singleton.mp z]
          exact .inr ⟨List.mem_cons_self, fun e => hd (.inl e), fun e => hd (.inr e)⟩
      · exact .inr ⟨List.mem_cons_of_mem _ z.1, z.2⟩
theorem wcut_ne : ∀ (l h : List Nat), [] ∉ wcut h l
  | [], h => by
    simp only [wcut]
    split
    · simp
    · rename_i n; simp; exact n
  | c :: r, h => by
    simp only [wcut]
    split
    · split
      · exact wcut_ne r []
      · rename_i n
        intro z
        rcases List.mem_cons.mp z with e | z
        · exact n e.symm
        · exact wcut_ne r [] z
    · exact wcut_ne r _
theorem wcut_plain : ∀ (l h : List Nat), (∀ c ∈ l, c ≠ 32 ∧ c ≠ 10) → wcut h l = if h ++ l = [] then [] else [h ++ l]
  | [], h, _ => by simp [wcut]
  | c :: r, h, hl => by
    have hc := hl c List.mem_cons_self
    simp only [wcut]
    rw [if_neg (by omega), wcut_plain r (h ++ [c]) fun d hd => hl d (List.mem_cons_of_mem _ hd)]
    simp
/-- the length of all signs in the words -/
def total (ws : List (List Nat)) : Nat := (ws.map List.length).sum
theorem wcut_total : ∀ (l h : List Nat), total (wcut h l) ≤ h.length + l.length
  | [], h => by
    simp only [wcut]
    split <;> simp [total]
  | c :: r, h => by
    simp only [wcut]
    have h1 := wcut_total r []
    have h2 := wcut_total r (h ++ [c])
    simp only [List.length_append, List.length_cons, List.length_nil] at h1 h2 ⊢
    split
    · split
      · omega
      · simp only [total, List.map_cons, List.sum_cons] at h1 ⊢; omega
    · omega
theorem one_word (l : List Nat) : wcut [] l = [l] ↔ (l ≠ [] ∧ 32 ∉ l ∧ 10 ∉ l) := by
  constructor
  · intro h
    refine ⟨fun e => ?_, fun z => ?_, fun z => ?_⟩
    · subst e; simp [wcut] at h
    · have := wcut_mem l [] (x := l) (c := 32) (by rw [h]; simp) z
      rcases this with z | z
      · cases z
      · exact z.2.1 rfl
    · have := wcut_mem l [] (x := l) (c := 10) (by rw [h]; simp) z
      rcases this with z | z
      · cases z
      · exact z.2.2 rfl
  · rintro ⟨h1, h2, h3⟩
    rw [wcut_plain l [] fun c hc => ⟨fun e => h2 (e ▸ hc), fun e => h3 (e ▸ hc)⟩]
    simp [h1]
/-- texts joined -/
def jn (y : List Nat) : List (List Nat) → List Nat
  | [] => []
  | [p] => p
  | p :: q :: r => p ++ (y ++ jn y (q :: r))
theorem jn_eq (y : List Nat) : ∀ ws : List (List Nat), TL.joinL y ws = jn y ws
  | [] => rfl
  | [_] => rfl
  | p :: q :: r => by
    show p ++ (y ++ TL.joinL y (q :: r)) = p ++ (y ++ jn y (q :: r))
    rw [jn_eq y (q :: r)]
theorem join_tx (y : List Nat) (ws : List (List Nat)) : Txt.join (tx y) (ws.map tx) = tx (jn y ws) := by
  rw [TL.join_eq]
  refine TL.ext_tl ?_
  have tlx : ∀ x : List Nat, TL.tl (tx x) = x := fun x => tx_list x
  rw [TL.tl_join, tlx, tlx, List.map_map, show (TL.tl ∘ tx) = (id : List Nat → List Nat) from funext tlx, List.map_id, jn_eq]
theorem jn_len (y : List Nat) : ∀ ws : List (List Nat), (jn y ws).length ≤ total ws + ws.length * y.length
  | [] => by simp [jn]
  | [p] => by simp [jn, total]
  | p :: q :: r => by
    have h := jn_len y (q :: r)
    have e : (p :: q :: r).length * y.length = (q :: r).length * y.length + y.length := by rw [List.length_cons, Nat.succ_mul]
    rw [e]
    show (p ++ (y ++ jn y (q :: r))).length ≤ _
    have e2 : total (p :: q :: r) = p.length + total (q :: r) := rfl
    rw [List.length_append, List.length_append, e2]
    omega
theorem jn_nil : ∀ ws : List (List Nat), jn [] ws = ws.flatten
  | [] => rfl
  | [p] => by simp [jn]
  | p :: q :: r => by
    show p ++ ([] ++ jn [] (q :: r)) = _
    rw [jn_nil (q :: r)]; rfl
theorem jn_mem {c : Nat} {ws : List (List Nat)} (h : c ∈ jn [] ws) : ∃ x ∈ ws, c ∈ x := by
  rw [jn_nil] at h
  obtain ⟨x, hx, hc⟩ := List.mem_flatten.mp h
  exact ⟨x, hx, hc⟩
/-- of such a text's signs -/
def plainTx (l : List Nat) : Prop := ∀ c ∈ l, c < 1114112
theorem plain_ok {l : List Nat} (h : plainTx l) : PyData.strOk (tx l) = true := by
  show l.toArray.all _ = true
  rw [List.all_toArray, List.all_eq_true]
  intro c hc
  exact decide_eq_true (h c hc)
theorem flat_vts {ws : List (List Nat)} (h : ∀ x ∈ ws, plainTx x) : (vts ws).all flat = true := by
  rw [List.all_map, List.all_eq_true]
  exact fun x hx => plain_ok (h x hx)
/-! ### the end: what the top has written -/
theorem at_mk {K : PySem.W.Frag} {h : Heap} {mg : Str → Option Value} {x : Str} {ps : List Str} {st : Stmt} {f : Addr} {oc kV dc pm cd ct : Value} {od an : Option Addr} {sl : Array (Option Value)}
    (X : K.In h) (G : h.Ns mainGlobals mg) (a : PySem.W.nsIn K mainGlobals x = some (some (.ref f)))
    (l : K.lookup f = some ⟨oc, od, .func (PySem.W.fnOf x x (defArgs st) (defBody st) (defScope st) .none kV dc pm an cd ct), sl⟩)
    (c : PySem.W.codeIn K cd x = true) (k : PySem.W.keepIn K (.ref f) = true)
    (b : ∀ (kV doc pm : Value) (an : Option Addr) (cdv ct : Value) (us : List Value), us.length = ps.length →
      bindArgs (PySem.W.fnOf x x (defArgs st) (defBody st) (defScope st) .none kV doc pm an cdv ct) ⟨us, []⟩ = pure (ps.zip us)) : At K mg x ps st := by
  have F := fun_mk (x := x) (qual := x) (st := st) l c k
  exact ⟨f, _, PySem.W.mg_of X G a, F, F.binds b⟩
structure LawAt (K : PySem.W.Frag) (fa : Addr) (x p : Str) (st : Stmt) : Prop where
  ex : ∃ fd, (∀ (s : Shared) (v : Value), BindsTo s fd ⟨[v], []⟩ [(p, v)]) ∧ Fun K x x st fa fd
theorem lawat_mk {K : PySem.W.Frag} {h : Heap} {mg : Str → Option Value} {x p : Str} {st : Stmt} {f fa : Addr} {oc kV dc pm cd ct : Value} {od an : Option Addr} {sl : Array (Option Value)}
    (X : K.In h) (G : h.Ns mainGlobals mg) (hfa : mg x = some (.ref fa)) (a : PySem.W.nsIn K mainGlobals x = some (some (.ref f)))
    (l : K.lookup f = some ⟨oc, od, .func (PySem.W.fnOf x x (defArgs st) (defBody st) (defScope st) .none kV dc pm an cd ct), sl⟩)
    (c : PySem.W.codeIn K cd x = true) (k : PySem.W.keepIn K (.ref f) = true)
    (b : ∀ (kV doc pm : Value) (an : Option Addr) (cdv ct : Value) (s : Shared) (v : Value),
      BindsTo s (PySem.W.fnOf x x (defArgs st) (defBody st) (defScope st) .none kV doc pm an cdv ct) ⟨[v], []⟩ [(p, v)]) : LawAt K fa x p st := by
  have e := hfa.symm.trans (PySem.W.mg_of X G a)
  cases e
  exact ⟨_, b kV dc pm an cd ct, fun_mk (x := x) (qual := x) (st := st) l c k⟩
theorem bts_mk {K : PySem.W.Frag} {h : Heap} {mg : Str → Option Value} (X : K.In h) (G : h.Ns mainGlobals mg)
    (z1 : PySem.W.nsIn K mainGlobals "len" = some none) (z2 : PySem.W.nsIn K mainGlobals "range" = some none) (z3 : PySem.W.nsIn K mainGlobals "max" = some none)
    (z4 : PySem.W.nsIn K mainGlobals "sum" = some none) (z5 : PySem.W.nsIn K mainGlobals "int" = some none) (z6 : PySem.W.nsIn K mainGlobals "bool" = some none)
    (z7 : PySem.W.nsIn K mainGlobals "str" = some none) (z8 : PySem.W.nsIn K mainGlobals "list" = some none) (z9 : PySem.W.nsIn K mainGlobals "isinstance" = some none)
    (za : PySem.W.nsIn K mainGlobals "sorted" = some none) (zb : PySem.W.nsIn K mainGlobals "reversed" = some none) (zc : PySem.W.nsIn K mainGlobals "ValueError" = some none) : Bts mg :=
  have n : ∀ {x : Str}, PySem.W.nsIn K mainGlobals x = some none → mg x = none := fun z => PySem.W.mg_none_of X G z
  ⟨n z1, n z2, n z3, n z4, n z5, n z6, n z7, n z8, n z9, n za, n zb, n zc⟩
end Tw
namespace Tw
open PySem PySem.Spec PyProof.Rows L2
/-! ### while an exception is handled: the end of a list's iterator, sum, a comprehension over a range -/
section
variable {prog : Program} {w : World} {A : Around} {E : Value → Shared → Prop} {s : Shared}
theorem hot_list_end {it l x1 : Addr} {i : Nat} {items : Array Value} {Q : Option Value → Shared → Prop} (hot : HotX.HotAt A x1 s.heap)
    (hit : s.heap.IsListIter it l i) (hl : s.heap.IsList l items) (hx : items[i]? = none) (hn : x1 ≠ it)
    (hQ : ∀ h', Heap.ExtBut it s.heap h' → Q none { s with heap := h' }) : wpAny (model prog w) A (pyNext (.ref it)) Q E s := by
  obtain ⟨o, ho, hc, hd⟩ := id hit
  obtain ⟨ol, hol, _, nl, hdl⟩ := hl
  obtain ⟨hh, o1, vs1, h1, d1, c1⟩ := hot
  unfold pyNext
  refine wpAny_bind (wpAny_attempt ?_)
  refine wpAny_callSpecial?_slot (name := Str.ofString "__next__") hit.typeIs slot_listiter_next ?_
  refine wpAny_call_entry slot_listiter_next hit.typeIs entry_listiter_next ?_ (args_listiter_next _)
  show wpAny _ _ (field (.ref it) 0 >>= _) _ _ s
  refine wpAny_bind ?_
  refine wpAny_field ho hd (x := .ref l) rfl ?_
  show wpAny _ _ (if (Value.ref l == Value.none) = true then _ else _) _ _ s
  have nz : ¬ ((Value.ref l == Value.none) = true) := fun z => by cases z
  rw [if_neg nz]
  show wpAny _ _ (field (.ref it) 1 >>= _) _ _ s
  refine wpAny_bind ?_
  refine wpAny_field ho hd (x := .int i 0) rfl ?_
  show wpAny _ _ (seqItems? (.ref l) >>= _) _ _ s
  refine wpAny_bind ?_
  refine wpAny_seqItems hol hdl ?_
  simp only [Int.toNat_natCast, hx]
  refine wpAny_bind (wpAny_rule ?_)
  refine wpAny_bind (wpAny_setField ho hd (by simp) ?_)
  show wpAny _ _ (newExc (.type "StopIteration") [] >>= _) _ _ _
  refine wpAny_bind ?_
  simp only [newExc, newTuple]
  refine wpAny_bind ?_
  refine wpAny_newObj_type ?_ (by size_fits)
  refine wpAny_bind (m := firstArgMember _ _) ?_
  refine wpAny_of_eq (a := Value.none) (by first | rfl | (simp only [firstArgMember]; rfl)) ?_
  refine wpAny_newObj_type ?_ (by size_fits)
  have e1 : (s.heap.update it (Obj.mapFields (·.setIfInBounds 0 Value.none))).get? x1 = some o1 := by
    rw [Heap.get?_update_other _ _ (Ne.symm hn)]; exact h1
  refine HotX.raiseNew_hot (x1 := x1) ⟨hh, o1, vs1, Heap.get?_push_of_some _ (Heap.get?_push_of_some _ e1), d1, c1⟩ ?_ (Heap.get?_push_size _ rfl) rfl ?_ ?_
  · exact Nat.ne_of_lt (Heap.lt_size (Heap.get?_push_of_some _ e1))
  · first | (simp; done) | (simp; omega)
  · refine wpAny_bind ?_
    refine wpAny_isInstance (T := "StopIteration") (b := true) ⟨_, Heap.get?_update_self _ (Heap.get?_push_size _ rfl) rfl, rfl⟩ isSubtype_stop ?_
    refine wpAny_pure (hQ _ ?_)
    refine fun b ob hb e => ?_
    have e2 : (s.heap.update it (Obj.mapFields (·.setIfInBounds 0 Value.none))).get? b = some ob := by
      rw [Heap.get?_update_other _ _ (Ne.symm hb)]; exact e
    have e3 := Heap.get?_push_of_some { cls := .type "tuple", data := .seq ([] : List Value).toArray } e2
    rw [Heap.get?_update_other _ _ (Nat.ne_of_gt (Heap.lt_size e3))]
    exact Heap.get?_push_of_some _ e3
end
end Tw
namespace Tw
open PySem PySem.Spec PyProof.Rows L2
theorem hot_walks {prog : Program} {w : World} {A : Around} {x1 : Addr} {o1 : Obj} {vs1 : Array Value} (hh : A.handled = some (.ref x1)) (d1 : o1.data = .fields vs1) (c1 : vs1[2]? = some .none)
    (J ax : Addr) (hne : ax ≠ J) (hx : x1 ≠ J) (items : Array Value) :
    Walks prog w A J [J, ax, x1] [J] items.size (fun i v => items[i]? = some v) (fun i h => h.IsListIter J ax i ∧ h.IsList ax items ∧ h.get? x1 = some o1) where
  sub := fun b hb => by
    rw [List.mem_singleton.mp hb]; exact List.mem_cons_self
  frame := fun _ _ _ st hk => ⟨st.1.at fun o e => hk J (by simp) o e, st.2.1.at fun o e => hk ax (by simp) o e, hk x1 (by simp) _ st.2.2⟩
  item := fun i s Q E hi st hQ => by
    refine wpAny_pyNext_list_item st.1 st.2.1 (x := items[i]) (by simp [hi]) fun h' hit' hs' => ?_
    refine hQ _ h' s.toks (by simp [hi]) ⟨hit', st.2.1.extBut hs'.extBut hne, ?_⟩ fun b o hb e => hs'.extBut b o (fun h => hb (by simp [h])) e
    exact hs'.extBut x1 o1 hx st.2.2
  done := fun s Q E st hQ => by
    refine hot_list_end ⟨hh, o1, vs1, st.2.2, d1, c1⟩ st.1 st.2.1 (by simp) hx fun h' he' => ?_
    exact hQ h' s.toks fun b o hb e => he' b o (fun h => hb (by simp [h])) e
  self := fun _ _ _ _ st hQ => wpAny_pyIter_listiter st.1 hQ
theorem hot_sum {prog : Program} {w : World} {A : Around} {E : Value → Shared → Prop} {s : Shared} {l x1 : Addr} {o1 : Obj} {vs1 : Array Value} {xs : Array (Int × Tok)} {Q : Value → Shared → Prop}
    (hh : A.handled = some (.ref x1)) (h1 : s.heap.get? x1 = some o1) (d1 : o1.data = .fields vs1) (c1 : vs1[2]? = some .none) (hl : s.heap.IsList l (intItems xs))
    (h : ∀ h' tk t', (∀ b o, s.heap.get? b = some o → h'.get? b = some o) → Q (.int (preSum (numAt xs) xs.size) t') { s with heap := h', toks := tk }) :
    wpAny (model prog w) A (call (.builtin "sum") [.ref l]) Q E s := by
  have hx : x1 ≠ s.heap.objs.size := Nat.ne_of_lt (Heap.lt_size h1)
  refine call_sum_walkG (iter_intList hl fun s2 e st hfp hlI => ?_)
  subst e
  have W := hot_walks (prog := prog) (w := w) (A := A.in1) (o1 := o1) hh d1 c1 s.heap.objs.size l hlI hx (intItems xs)
  refine ⟨_, _, _, _, _, _, numAt xs, rfl, W, ⟨st.1, st.2, Heap.get?_push_of_some _ h1⟩, fun b hb => ?_, (fun _ _ => intItems_at), fun h' tk t' hk => ?_⟩
  · rcases List.mem_cons.mp hb with e | hb
    · exact hfp b (by rw [e]; simp)
    · rcases List.mem_cons.mp hb with e | hb
      · exact hfp b (by rw [e]; simp)
      · rw [List.mem_singleton.mp hb]
        exact Heap.lt_size (Heap.get?_push_of_some _ h1)
  · have z := h h' tk t' fun b o e => hk b o (fun z => by
      rw [List.mem_singleton.mp z] at e
      exact absurd (Heap.lt_size e) (Nat.lt_irrefl _)) (Heap.get?_push_of_some _ e)
    simpa [intItems] using z
theorem cr_sumH {X : Cx} (hc : L2H.HotC X) : CallR X (.builtin "sum") (rSum X.K) := by
  intro pins s σ H xs us Q I r h
  obtain ⟨a, ns, rfl, hS, q⟩ := h
  obtain ⟨p, ⟨hh, v1, d1, c1⟩, hp⟩ := hc
  have hg := (I.pin p (List.mem_append_left _ hp)).1
  obtain ⟨its, rv, hl, hz⟩ := I.list hS
  cases r with
  | cons r1 rr =>
    cases rr
    cases r1
    obtain ⟨xs', hx⟩ := rv.ints.allInts.items
    have hl2 := hl.isList
    have hn := rv.ints.numsOf
    rw [hx] at hl2
    refine hot_sum hh hg d1 c1 hl2 fun h' tk t' hk => ⟨.int ns.sum, H, I.kept hk, ⟨t', ?_⟩, q⟩
    have e1 : its = (intItems xs').toList := by rw [← hx]
    rw [e1, nums_intItems] at hn
    rw [preSum_eq, List.take_of_length_le (by simp), ← hn]
end Tw
namespace Tw
open PySem PySem.Spec PyProof.Rows L2
/-- a comprehension's block where an exception is handled: the pins go along -/
abbrev blkH (X : Cx) (s : Shared) (H : Hp) (scope : Scope) (cenv : Env) (fp : List Addr) : Cx :=
  { X with s_0 := s, H_0 := H, env := cenv, outer := X.stack, ex := fp, fn := fun x => scope.names.lookup x == some .cell, xe := fun _ _ => False }
theorem blkH_ok {X : Cx} {s : Shared} {H : Hp} {scope : Scope} {cenv : Env} {fp : List Addr} (k : (X.blk s H scope cenv fp).Ok) : (blkH X s H scope cenv fp).Ok :=
  ⟨k.mod, k.kind, k.glob, k.blt, k.above, k.inj, k.has, k.cab, k.hd, k.frames, k.stk, k.exf, k.bs, k.bsz, k.noex, k.exfs, k.funs, k.frf⟩
section
variable {X : Cx}
theorem pe_lcH {elt tg iter : Expr} {ifs : List Expr} {scope : Scope} {own : List (Str × Nat)} {pos : Pos} {wi : TI} {g : TG} {tt : TT} {te : TE}
    (hot : L2H.HotC X) (hN : X.N.Nodup) (hi : L2H.PIH X tg iter wi) (ok : BlkOk X.N X.env.scope scope own)
    (hg : ∀ (s : Shared) (H : Hp) (C : Addr) (cl : List (Str × Addr)) (fp : List Addr), PG (blkH X s H scope (compEnvC scope cl C X.env) fp) tg g)
    (ht : ∀ (s : Shared) (H : Hp) (C : Addr) (cl : List (Str × Addr)) (fp : List Addr), PTs (blkH X s H scope (compEnvC scope cl C X.env) fp) ifs tt)
    (he : ∀ (s : Shared) (H : Hp) (C : Addr) (cl : List (Str × Addr)) (fp : List Addr), PE (blkH X s H scope (compEnvC scope cl C X.env) fp) elt te)
    (hs : ∀ x, foldedSetIterable iter X.env x = pure x := by intro _; rfl) :
    PE X (.ListComp elt [⟨tg, iter, ifs, 0⟩] scope pos) (tLc wi g tt te (own.map (·.2))) := by
  constructor
  intro pins s σ H Q I h
  rw [eval_ListComp]
  have fr : ∀ y ∈ scope.names, y.2 = .free → ∃ c, X.env.cells.lookup y.1 = some c := by
    intro y hy e
    rcases ok.free y hy e with k | k
    · exact I.ok.has _ (.inl k)
    · exact I.ok.has _ (.inr k)
  refine wpAny_comprehension_free rfl hs (closure_ok fr) ok.kind (fun y hy e => by rw [ok.uniq y hy, e]) ?_
  refine thn (hi.run pins s σ H _ I h) fun xv s1 hx => thn hx fun itv s2 h2 => ?_
  obtain ⟨it, fp, tn, J, H2, rfl, I2, T, st2, f2, q⟩ := h2
  refine wpAny_newObj_type (newEnv_comp ?_) (by show 0 ≤ sizeLine; decide)
  obtain ⟨D, hD⟩ : ∃ D, s2.heap.objs.size = D := ⟨_, rfl⟩
  have Dn : H2 D = none := I2.hok.fresh (Nat.le_of_eq hD)
  obtain ⟨W, ⟨m0, w0⟩, turn⟩ := q D Dn
  rw [hD]
  obtain ⟨s3, hs3⟩ : ∃ s3 : Shared, s3 = { s2 with heap := s2.heap.push { cls := .type "list", data := .seq ([] : List Value).toArray } } := ⟨_, rfl⟩
  have h3 : s3.heap = s2.heap.push { cls := .type "list", data := .seq ([] : List Value).toArray } := by rw [hs3]
  have I3 : Inv X pins σ (upd H2 D (.lst [])) s3 := by
    rw [hs3]
    refine I2.laid (t' := s2.toks) (fun b o e => Heap.get?_push_of_some _ e) (Nat.le_of_eq hD) ?_
    exact ⟨Nat.zero_le _, [], 0, .nil, by rw [← hD]; exact Heap.get?_push_size _ rfl⟩
  obtain ⟨H3, hH3⟩ : ∃ H3, H3 = upd H2 D (.lst []) := ⟨_, rfl⟩
  rw [← hH3] at I3 w0
  have low : ∀ b ∈ fp, b < s2.heap.objs.size := fun b hb => let ⟨o, e, _⟩ := T.obj _ _ st2 b hb; Heap.lt_size e
  have f3 : ∀ b ∈ fp, FpOk X pins H3 b ∧ b < s3.heap.objs.size := by
    intro b hb
    have lt := low b hb
    refine ⟨⟨?_, (f2 b hb).2⟩, ?_⟩
    · rw [hH3, upd_ne (by rw [← hD]; exact Nat.ne_of_lt lt)]
      exact (f2 b hb).1
    · rw [h3, Heap.size_push]; exact Nat.lt_succ_of_lt lt
  have st3 : tn 0 s3.heap := T.keep _ _ _ st2 fun b _ o e => by rw [h3]; exact Heap.get?_push_of_some _ e
  obtain ⟨ce, hce⟩ : ∃ ce, ce = compEnvC scope (cellsFrom (s3.heap.objs.size + 1) scope.names (cloFrom X.env.cells scope.names [])) s3.heap.objs.size X.env := ⟨_, rfl⟩
  have cL : ce.locals = s3.heap.objs.size := by rw [hce]; rfl
  have B0 := block_start I3 ok hN f3
  rw [← hce] at B0
  obtain ⟨s4, hs4⟩ : ∃ s4 : Shared, s4 = { s3 with heap := pushCells (s3.heap.push { cls := .type "dict", data := .dict #[] }) scope.names } := ⟨_, rfl⟩
  have up : ∀ b o, s3.heap.get? b = some o → s4.heap.get? b = some o := fun b o e => by
    rw [hs4]; exact pushCells_keeps _ _ _ _ (Heap.get?_push_of_some _ e)
  rw [← hs4] at B0
  -- the pins of the def stand in the block
  have pn4 : ∀ p ∈ X.pn ++ [], s4.heap.get? p.1 = some p.2 ∧ H3 p.1 = none ∧ p.1 ≠ ce.locals ∧ p.1 ∉ frs X.stack ∧ ∀ v, p.2.data ≠ .cell v := by
    intro p hp
    rw [List.append_nil] at hp
    obtain ⟨a1, a2, a3, a4, a5⟩ := I3.pin p (List.mem_append_left _ hp)
    refine ⟨up _ _ a1, a2, ?_, fun z => ?_, a5⟩
    · rw [cL]; exact Nat.ne_of_lt (Heap.lt_size a1)
    · rcases List.mem_cons.mp (I3.stkSub p.1 z) with e | z
      · exact a3 e
      · exact a4 z
  have I4 : Inv (blkH X s3 H3 scope ce fp) [] (wipe σ (own.map (·.2))) H3 s4 :=
    ⟨blkH_ok B0.ok, B0.os, B0.bare, B0.base, B0.loc, B0.cell, B0.free, B0.freeC, pn4, B0.hok, B0.len⟩
  have hotB : L2H.HotC (blkH X s3 H3 scope ce fp) := hot
  have pg : PG (blkH X s3 H3 scope ce fp) tg g := by rw [hce]; exact hg _ _ _ _ _
  have pt : PTs (blkH X s3 H3 scope ce fp) ifs tt := by rw [hce]; exact ht _ _ _ _ _
  have pe : PE (blkH X s3 H3 scope ce fp) elt te := by rw [hce]; exact he _ _ _ _ _
  have st4 : tn 0 s4.heap := T.keep _ _ _ st3 fun b _ o e => up b o e
  have fpB : ∀ {σ' : L2.St} {H' : Hp} {s' : Shared}, Inv (blkH X s3 H3 scope ce fp) [] σ' H' s' → (∀ b ∈ fp, H' b = none) → ∀ b ∈ fp, FpOk (blkH X s3 H3 scope ce fp) [] H' b := by
    intro σ' H' s' I' hn b hb
    refine ⟨hn b hb, (I'.ok.exf b hb).1, I'.ok.exfs b hb, .inl hb, fun x c e => (I'.ok.exf b hb).2 x c e, fun p hp z => ?_⟩
    rw [List.append_nil] at hp
    exact (f3 b hb).1.2.2.2.2.2 p (List.mem_append_left _ hp) z
  suffices loop : codeAny (model X.prog X.w) X.A (.compLoop (.ListComp elt [⟨tg, iter, ifs, 0⟩] scope pos) 0 (.ref it) (.ref D) ce)
      (compPost (model X.prog X.w) X.A X.xe none (EP X pins σ Q) (.ref D) s3.heap.objs.size) s4 by
    have z := codeAny_compStart_list loop (T.self X.A 0 _ _ _ st4 loop)
    subst hs4
    subst hce
    subst hs3
    exact z
  refine compLoop_any (fun n s' => ∃ i H', Inv (blkH X s3 H3 scope ce fp) [] (wipe σ (own.map (·.2))) H' s' ∧ tn i s'.heap ∧ (∀ b ∈ fp, H' b = none) ∧ W i n H') ?_ m0
    ⟨0, H3, I4, st4, fun b hb => (f3 b hb).1.1, w0⟩
  rintro n s5 ⟨i, H5, I5, st5, n5, w5⟩
  rcases turn i n H5 w5 with ⟨stop, qq⟩ | ⟨go, Nx, hNx, step⟩
  · refine thnF (T.done (blkH X s3 H3 scope ce fp) rfl rfl rfl hotB i [] s5 _ H5 (fun _ _ => False) I5 (fpB I5 n5) st5 stop) fun r s6 hr => ?_
    obtain ⟨rfl, I6⟩ := hr
    have I7 : Inv X pins σ H5 s6 := I3.call' (ch := fp) I6.os I6.base I6.hok I6.bare fun b hb =>
      ⟨(f3 b hb).1.2.2.2.1, (f3 b hb).1.2.1, (f3 b hb).1.2.2.2.2.1, (f3 b hb).1.2.2.2.2.2⟩
    have nC : H5 s3.heap.objs.size = none := by rw [← cL]; exact I6.free
    obtain ⟨m, hn, _⟩ := I6.loc
    have hn2 : s6.heap.Ns s3.heap.objs.size m := by rw [← cL]; exact hn
    obtain ⟨f0, f1, f2', f3', f4, f5⟩ := I3.fpOk (Nat.le_refl _) nC
    exact ⟨m, hn2, fun h'' sb => ⟨.ref D, H5, I7.turned (t' := s6.toks) (fun b o hb e => (sb.2 b hb).trans e) f0 f1 f3' f4 f5, rfl, qq⟩⟩
  · refine thnF (T.item (blkH X s3 H3 scope ce fp) rfl rfl rfl hotB i [] s5 _ H5 (fun _ _ => False) I5 (fpB I5 n5) st5 go) fun r s6 hr => ?_
    obtain ⟨u, rfl, h6⟩ := hr
    refine thnF h6 fun _ s7 h7 => ?_
    obtain ⟨x, H7, I7, r7, y7, st7, n7⟩ := h7
    have I7p := I7.pinned (fpB I7 n7) (T.obj _ _ st7)
    refine thnF (pg.run _ s7 _ H7 x u _ I7p r7 (step x H7 y7)) fun _ s8 h8 => ?_
    obtain ⟨σ8, H8, I8, hw8, q8⟩ := h8
    refine thnF (pt.run _ s8 σ8 H8 _ I8 q8) fun b s9 h9 => ?_
    obtain ⟨H9, I9, q9⟩ := h9
    have fin : ∀ {s' : Shared} {H' : Hp}, Inv (blkH X s3 H3 scope ce fp) ([] ++ pinsAt fp s7.heap) σ8 H' s' → Nx H' →
        ∃ m, m < n ∧ ∃ i H', Inv (blkH X s3 H3 scope ce fp) [] (wipe σ (own.map (·.2))) H' s' ∧ tn i s'.heap ∧ (∀ b ∈ fp, H' b = none) ∧ W i m H' := by
      intro s' H' I' nx
      obtain ⟨m', hm, w'⟩ := hNx H' nx
      have pin' : ∀ b ∈ fp, ∀ o, s7.heap.get? b = some o → s'.heap.get? b = some o ∧ H' b = none := by
        intro b hb o e
        have z := I'.pin (b, o) (List.mem_append_right _ (List.mem_append_right _ (mem_pinsAt hb e)))
        exact ⟨z.1, z.2.1⟩
      refine ⟨m', hm, i + 1, H', (I'.unpinned (pins := [])).weak ?_ ?_, T.keep _ _ _ st7 fun b hb o e => (pin' b hb o e).1, ?_, w'⟩
      · rw [← hw8, wipe_length]
      · intro j v e
        rw [← hw8] at e
        exact (wipe_some e).1
      · intro b hb
        obtain ⟨o, e, _⟩ := T.obj _ _ st7 b hb
        exact (pin' b hb o e).2
    cases b with
    | false =>
      rw [if_neg Bool.false_ne_true] at q9 ⊢
      exact fin I9 q9
    | true =>
      rw [if_pos rfl] at q9 ⊢
      refine thnF (pe.run _ s9 σ8 H9 _ I9 q9) fun z s10 h10 => ?_
      obtain ⟨yv, H10, I10, r10, acc, hD10, hz10, nx⟩ := h10
      exact app_ok (X := blkH X s3 H3 scope ce fp) I10 hD10 hz10 r10 fun s11 I11 => fin I11 nx
end
end Tw
namespace Tw
open PySem PySem.Spec PyProof.Rows L2
/-! ### the refusals' classes -/
structure EA where
  wrap : Addr
  nw : Addr
  lw : Addr
  ns : Addr
  tw : Addr
  tf : Addr
  tm : Addr
  np : Addr
  nwd : Addr
  fl : Addr
  nb : Addr
/-- what the written part says of the class x, at C; wr: the address of WrapError -/
structure XC (K : PySem.W.Frag) (mg : Str → Option Value) (x : Str) (C wr : Addr) : Prop where
  g : mg x = some (.ref C)
  ex : PySem.W.excIn K C [.type "ValueError", .type "Exception", .type "BaseException", .type "object"] "ValueError.__new__" = true
  kp : PySem.W.keepIn K (.ref C) = true
  b : PySem.W.subIn K (.ref C) (.type "BaseException") = some true
  t : PySem.W.typeIn K (.ref C) = some (.type "type")
  m : PySem.W.exmOne K (.ref C) (.ref wr) = some true
  ve : PySem.W.kitOne K (.ref C) (.type "ValueError") = some true
  we : PySem.W.kitOne K (.ref C) (.ref wr) = some true
  c : ExcC K C
theorem XC.mk_raise {X : Cx} {x : Str} {C wr : Addr} (c : XC X.K X.mg x C wr) {m : Str} {j : Nat} {p p2 pos : Pos} (hg : Gl X x) (hdb : (x == ("__debug__" : Str)) = false := by decide) :
    L2N.PMk X (.Call (.Name x p) [.Constant (.str m) j p2] [] pos) (fun _ H Q => Q (.ref C) none H) :=
  L2N.pmk_own PySem.F.excBase_ValueError c.ex c.g c.kp (raises_own c.b c.t) hg hdb
/-- isinstance of an instance of D against the ten classes: only the i-th is its own -/
structure Kd (K : PySem.W.Frag) (e : EA) (D : Addr) (i : Nat) : Prop where
  k0 : PySem.W.kitOne K (.ref D) (.ref e.nw) = some (i == 0)
  k1 : PySem.W.kitOne K (.ref D) (.ref e.lw) = some (i == 1)
  k2 : PySem.W.kitOne K (.ref D) (.ref e.ns) = some (i == 2)
  k3 : PySem.W.kitOne K (.ref D) (.ref e.tw) = some (i == 3)
  k4 : PySem.W.kitOne K (.ref D) (.ref e.tf) = some (i == 4)
  k5 : PySem.W.kitOne K (.ref D) (.ref e.tm) = some (i == 5)
  k6 : PySem.W.kitOne K (.ref D) (.ref e.np) = some (i == 6)
  k7 : PySem.W.kitOne K (.ref D) (.ref e.nwd) = some (i == 7)
  k8 : PySem.W.kitOne K (.ref D) (.ref e.fl) = some (i == 8)
  k9 : PySem.W.kitOne K (.ref D) (.ref e.nb) = some (i == 9)
structure Xs (K : PySem.W.Frag) (mg : Str → Option Value) (e : EA) : Prop where
  g_wrap : mg "WrapError" = some (.ref e.wrap)
  c_NoWidth : XC K mg "NoWidth" e.nw e.wrap
  c_LongWord : XC K mg "LongWord" e.lw e.wrap
  c_NoStarts : XC K mg "NoStarts" e.ns e.wrap
  c_TooWide : XC K mg "TooWide" e.tw e.wrap
  c_TooFew : XC K mg "TooFew" e.tf e.wrap
  c_TooMany : XC K mg "TooMany" e.tm e.wrap
  c_NoPlace : XC K mg "NoPlace" e.np e.wrap
  c_NoWord : XC K mg "NoWord" e.nwd e.wrap
  c_Full : XC K mg "Full" e.fl e.wrap
  c_NoWayBack : XC K mg "NoWayBack" e.nb e.wrap
  d0 : Kd K e e.nw 0
  d1 : Kd K e e.lw 1
  d2 : Kd K e e.ns 2
  d3 : Kd K e e.tw 3
  d4 : Kd K e e.tf 4
  d5 : Kd K e e.tm 5
  d6 : Kd K e e.np 6
  d7 : Kd K e e.nwd 7
  d8 : Kd K e e.fl 8
  d9 : Kd K e e.nb 9
/-- the class of a refusal by its number -/
def EA.cls (e : EA) : Nat → Addr
  | 0 => e.nw
  | 1 => e.lw
  | 2 => e.ns
  | 3 => e.tw
  | 4 => e.tf
  | 5 => e.tm
  | 6 => e.np
  | 7 => e.nwd
  | 8 => e.fl
  | _ => e.nb
theorem Xs.d {K : PySem.W.Frag} {mg : Str → Option Value} {e : EA} (x : Xs K mg e) {i : Nat} (h : i < 10) : Kd K e (e.cls i) i := by
  match i, h with
  | 0, _ => exact x.d0
  | 1, _ => exact x.d1
  | 2, _ => exact x.d2
  | 3, _ => exact x.d3
  | 4, _ => exact x.d4
  | 5, _ => exact x.d5
  | 6, _ => exact x.d6
  | 7, _ => exact x.d7
  | 8, _ => exact x.d8
  | 9, _ => exact x.d9
theorem Xs.c {K : PySem.W.Frag} {mg : Str → Option Value} {e : EA} (x : Xs K mg e) {i : Nat} (h : i < 10) :
    ExcC K (e.cls i) ∧ PySem.W.exmOne K (.ref (e.cls i)) (.ref e.wrap) = some true ∧ PySem.W.kitOne K (.ref (e.cls i)) (.type "ValueError") = some true ∧
      PySem.W.kitOne K (.ref (e.cls i)) (.ref e.wrap) = some true := by
  have go : ∀ {y : Str} {C : Addr}, XC K mg y C e.wrap → ExcC K C ∧ PySem.W.exmOne K (.ref C) (.ref e.wrap) = some true ∧ PySem.W.kitOne K (.ref C) (.type "ValueError") = some true ∧
      PySem.W.kitOne K (.ref C) (.ref e.wrap) = some true := fun z => ⟨z.c, z.m, z.ve, z.we⟩
  match i, h with
  | 0, _ => exact go x.c_NoWidth
  | 1, _ => exact go x.c_LongWord
  | 2, _ => exact go x.c_NoStarts
  | 3, _ => exact go x.c_TooWide
  | 4, _ => exact go x.c_TooFew
  | 5, _ => exact go x.c_TooMany
  | 6, _ => exact go x.c_NoPlace
  | 7, _ => exact go x.c_NoWord
  | 8, _ => exact go x.c_Full
  | 9, _ => exact go x.c_NoWayBack

/-! ### defs that may raise -/
abbrev CXn (P : Program) (w : World) : CXT := L2N.CX P w
section
variable {P : Program} {w : World} {K : PySem.W.Frag} {mg : Str → Option Value} {base : Heap}
theorem At.okX {x : Str} {ps N : List Str} {st : Stmt} {k : Nat} {sp : Sp} (A : At K mg x ps st) (S : FnScope N ps (defScope st))
    (len : ∀ vs H Q E, sp vs H Q E → vs.length = ps.length)
    (hbody : ∀ (f cdv : _) (A : Around) (outer : List Env) (s : Shared) (H : Hp) (vs : List V) (Q : VK) (E : XK),
      Room k (A.deeper (envOfC x (defScope st) s.heap.objs.size f cdv)) → sp vs H Q E →
      ∃ t, PSs (cxOf (CXn P w) P w K mg base N x (defScope st) f cdv A outer s H E) (defBody st) t ∧
        t { nx := fun _ H' => Q .non H', rt := Q } (start N vs) H) :
    Ok P w K mg base (CXn P w) (k + 1) x ps sp := by
  obtain ⟨f, fd, g, F, b⟩ := A.ex
  obtain ⟨oc, od, kV, doc, pm, an, cdv, ct, osl, e, lk, hcd⟩ := F.ex
  subst e
  exact ⟨f, _, g, F.kp, b, fn_of lk hcd S len fun A outer s H vs Q E hr hsp => hbody f cdv A outer s H vs Q E hr hsp⟩
end
theorem passN {X : Cx} : Passes (CXn X.prog X.w) X E0 := fun _ _ _ _ _ _ _ h => by
  obtain ⟨_, _, _, _, _, _, _, _, _, _, _, _, z⟩ := h
  exact z.elim
theorem takesN {X : Cx} : L2N.Takes X (fun _ _ _ _ => False) := fun _ _ x => by
  obtain ⟨_, _, _, _, _, _, _, _, _, _, _, _, _, _, _, _, z⟩ := x
  exact z.elim
theorem passR {P : Program} {w : World} {K : PySem.W.Frag} {mg : Str → Option Value} {base : Heap} {N : List Str} {q : Str} {sc : Scope} {f : Addr} {cd : Value} {A : Around} {outer : List Env} {s : Shared} {H : Hp} {E : XK} :
    Passes (CXn P w) (cxOf (CXn P w) P w K mg base N q sc f cd A outer s H E) E :=
  L2N.passes_call (L2N.takes_of rfl rfl rfl rfl) fun _ _ _ _ h => h

/-! ### a def called with the exception that is handled -/
theorem call_isP {X : Cx} {D : Addr} {p : Addr × Obj} (C : ExcC X.K D) (hz : Zc (.ref D) none p.2) (hf : ∃ vs, p.2.data = .fields vs) (hp : p ∈ X.pn) :
    CallR X (.builtin "isinstance") (rIsE X.K D p.1) := by
  intro pins s σ H xs us Q I r h
  obtain ⟨c, cv, b, rfl, hcv, e, q⟩ := h
  obtain ⟨u1, u2, rfl, r1, r2⟩ := vals2 r
  cases r1
  have ec := hcv _ r2
  subst ec
  have hget := (I.pin p (List.mem_append_left _ hp)).1
  obtain ⟨vs, hv⟩ := hf
  obtain ⟨a, oe⟩ := p
  obtain ⟨oc, od, oda, osl⟩ := oe
  obtain ⟨h1, h2⟩ := hz
  dsimp only at h1 h2 hv hget ⊢
  subst h1 h2 hv
  refine PySem.W.kia_one (PySem.W.handS_kitx_exc C.hg C.hk C.hs C.hd C.ha C.hn C.ht C.hm) I.kIn ⟨hget, rfl, rfl, trivial⟩ e (fun z => nomatch z) ?_
  exact fun tk => ⟨.bl b, H, I.kept (t' := tk) fun _ _ z => z, rfl, q⟩
/-- in a suite: isinstance of what is handled, whatever class it has -/
theorem call_isQ {X : Cx} {a : Addr} {oe : Obj} {cls : Value} {d : Option Addr} {pn : List (Addr × Obj)} (hz : L2N.Zn cls d oe) (hf : ∃ vs, oe.data = .fields vs) :
    CallR (X.suite a ((a, oe) :: pn)) (.builtin "isinstance") (fun xs H Q => ∃ D c cv b, cls = .ref D ∧ d = none ∧ ExcC X.K D ∧ xs = [.ref a, c] ∧ (∀ u, RelV c u → u = cv) ∧
      PySem.W.kitOne X.K (.ref D) cv = some b ∧ Q (.bl b) H) := by
  intro pins s σ H xs us Q I r h
  obtain ⟨D, c, cv, b, rfl, rfl, hc, e1, e2, e3, q⟩ := h
  exact call_isP (X := X.suite a ((a, oe) :: pn)) (p := (a, oe)) hc hz.zc hf List.mem_cons_self pins s σ H xs us Q I r ⟨c, cv, b, e1, e2, e3, q⟩
/-- what such a def gives: the number n for an instance of D -/
structure KindFn (P : Program) (w : World) (K : PySem.W.Frag) (mg : Str → Option Value) (base : Heap) (k : Nat) (f : Addr) (fd : FuncData) (x : Str) (D : Addr) (n : Int) : Prop where
  run : ∀ (A : Around) (outer : List Env) (s : Shared) (H : Hp) (args : Args) (E : XK) (p : Addr × Obj) (Q : VK), L2H.RoomH k A → L2H.Hot1 A p → L2H.PinOk outer H s p → Zc (.ref D) none p.2 →
    Env0 P w K mg base A outer s H → BindsTo s fd args [(x, .ref p.1)] → (∀ H', Same H H' → Q (.int n) H') → codeAny (model P w) A (.call (.ref f) args) (CR CX0 outer P w H s Q E) s
theorem kindFn_of {P : Program} {w : World} {K : PySem.W.Frag} {mg : Str → Option Value} {base : Heap} {k : Nat} {f : Addr} {x y : Str} {st : Stmt} {N : List Str} {D : Addr} {n : Int} {fd : FuncData}
    (F : Fun K x x st f fd) (S : FnScope N [y] (defScope st))
    (body : ∀ (cdv : Value) (A : Around) (outer : List Env) (s : Shared) (H : Hp) (E : XK) (p : Addr × Obj) (Q : VK), L2H.Hot1 A p → Zc (.ref D) none p.2 → L2H.RoomH k (A.deeper (envOfC x (defScope st) s.heap.objs.size f cdv)) →
      (∀ H', Same H H' → Q (.int n) H') →
      ∃ t, PSs (L2H.cxH CX0 P w K mg base N x (defScope st) f cdv A outer s H E p) (defBody st) t ∧ t { nx := fun _ H' => Q .non H', rt := Q } (L2.start N [.ref p.1]) H) :
    KindFn P w K mg base (k + 1) f fd y D n := by
  obtain ⟨oc, od, kV, doc, pm, an, cdv, ct, osl, e, lk, hcd⟩ := F.ex
  subst e
  refine ⟨fun A outer s H args E p Q hr hot hpin hz e0 hb hq => ?_⟩
  obtain ⟨t, ht, hq2⟩ := body cdv A outer s H E p Q hot hz (hr.deeper _) hq
  have rv : Vals [V.ref p.1] [Value.ref p.1] := .cons rfl .nil
  have keep : ∀ b o, base.get? b = some o → s.heap.get? b = some o := fun b o e => (e0.bs b o e).1
  have par : ∀ z ∈ ([y] : List Str).zip [Value.ref p.1], (defScope st).names.lookup z.1 = some .local ∨
      ((defScope st).names.lookup z.1 = some .cell ∧ ((cellsFrom (s.heap.objs.size + 1) (defScope st).names []).lookup z.1).isSome = true) := by
    rintro ⟨m, v⟩ hm
    rcases S.par m (List.of_mem_zip hm).1 with g | g
    · exact .inl g
    · exact .inr ⟨g, PySem.W.cellsFrom_some _ _ _ (.inl g)⟩
  have KX := e0.mod.kin.keeps keep
  refine codeAny_call_function hr.depth (KX _ _ lk) rfl S.co S.gen rfl (PySem.W.codeRec_of KX hcd) ?_
  refine hb _ _ _ _ ?_
  refine wpAny_newFunctionEnv_cells S.kind par fun env he s1 xx => ?_
  subst he
  refine ⟨(e0.mod.nolimit.keeps keep).keeps xx.toInCall.keep, codeAny_func ?_⟩
  have I := L2H.inv_startH (CX := CX0) (E := E) (P := P) (mg := mg) (f := f) (cd := cdv) (qual := x) S hpin e0 (vs := [V.ref p.1]) rfl rv xx
  refine wpAny_mono (ht.run [] s1 _ H _ I hq2) (fun fl s' hs => ?_) fun e s' hs => hs
  cases fl with
  | ret u =>
    obtain ⟨v, σ', H', J, rw', q⟩ := hs
    exact ⟨v, H', J.os, J.bare, J.base, J.hok, rw', q⟩
  | next =>
    obtain ⟨σ', H', J, q⟩ := hs
    exact ⟨.non, H', J.os, J.bare, J.base, J.hok, rfl, q⟩
  | brk => exact hs.elim fun _ z => z.elim fun _ z => False.elim z.2
  | cont => exact hs.elim fun _ z => z.elim fun _ z => False.elim z.2
/-- .. for each of the ten classes -/
structure Kinds (P : Program) (w : World) (K : PySem.W.Frag) (mg : Str → Option Value) (base : Heap) (e : EA) (k : Nat) (x y : Str) : Prop where
  ex : ∃ f fd, mg x = some (.ref f) ∧ PySem.W.keepIn K (.ref f) = true ∧ Binds K fd [y] [] ∧ ∀ i, i < 10 → KindFn P w K mg base k f fd y (e.cls i) (11 + i)
/-- its call in a suite -/
theorem pe_kind {X : Cx} {a : Addr} {oe : Obj} {cls : Value} {d : Option Addr} {pn : List (Addr × Obj)} {ea : EA} {k j : Nat} {x y : Str} {e : Expr} {t : TA} {q pos : Pos}
    (G : Kinds X.prog X.w X.K X.mg X.base ea k x y) (hr : Room j X.A) (hkj : k ≤ j) (hz : L2N.Zn cls d oe) (hf : ∃ vs, oe.data = .fields vs)
    (ha : PA (X.suite a ((a, oe) :: pn)) [e] t) (hg : Gl (X.suite a ((a, oe) :: pn)) x := by rfl) (hdb : (x == ("__debug__" : Str)) = false := by decide)
    (he : starEach (e :: []) (X.suite a ((a, oe) :: pn)).env = (false, eval e (X.suite a ((a, oe) :: pn)).env) :: starEach [] (X.suite a ((a, oe) :: pn)).env := by rfl)
    (hpl : (backTo pos (starEach [] (X.suite a ((a, oe) :: pn)).env)).any (·.1) = false := by rfl) :
    PE (X.suite a ((a, oe) :: pn)) (.Call (.Name x q) [e] [] pos)
      (fun σ H Q => t σ H fun vs H1 => ∃ i, i < 10 ∧ cls = .ref (ea.cls i) ∧ d = none ∧ vs = [.ref a] ∧ ∀ H', Same H1 H' → Q (.int (11 + (i : Nat))) H') := by
  obtain ⟨f, fd, gf, kp, hb, G⟩ := G.ex
  constructor
  intro pins s σ H Q I h
  refine wpAny_Call_Name_kw (ld_glob I hg gf ?_ hdb)
  refine PySem.W.callWith_K (h₀ := X.base) I.ok.mod.kin kp (thn (ha.run pos pins s σ H _ I h) fun us s1 hh => ?_) he hpl
  obtain ⟨vs, H1, I1, rv, i, hi, rfl, rfl, rfl, hq⟩ := hh
  refine ⟨I1.kIn, ?_⟩
  cases rv with
  | cons r1 rr =>
    cases rr
    cases r1
    have b := hb s1 [Value.ref a] I1.kIn rfl
    have P1 := I1.pin (a, oe) (List.mem_append_left _ List.mem_cons_self)
    have hpin : L2H.PinOk (X.suite a ((a, oe) :: pn)).stack H1 s1 (a, oe) := by
      refine ⟨P1.1, P1.2.1, fun hm => ?_, P1.2.2.2.2⟩
      rcases List.mem_cons.mp (I1.stkSub a hm) with z | z
      · exact P1.2.2.1 z
      · exact P1.2.2.2.1 z
    obtain ⟨v1, hv1⟩ := hf
    have hot : L2H.Hot1 (X.suite a ((a, oe) :: pn)).A (a, oe) := ⟨rfl, v1, hv1, hz.2.2 v1 hv1⟩
    have R := (G i hi).run (X.suite a ((a, oe) :: pn)).A (X.suite a ((a, oe) :: pn)).stack s1 H1 ⟨[.ref a], []⟩ E0 (a, oe) Q ((L2H.roomH_of hr).mono hkj |> fun z => ⟨z.dp, z.un⟩) hot hpin hz.zc I1.env0 b hq
    refine wpAny_call (codeAny_mono R fun r s' hq' => ?_)
    cases r with
    | error e => exact hq'.elim
    | ok fl =>
      cases fl with
      | ret u => exact I1.after hq'
      | next => exact hq'.elim
      | brk => exact hq'.elim
      | cont => exact hq'.elim
end Tw
namespace Tw
open PySem PySem.Spec PyProof.Rows L2
theorem kit_ref {K : PySem.W.Frag} {D C : Addr} {b : Bool} (hb : D = C → b = true) (h1 : (PySem.W.clsIn K C).isSome = true) (h2 : PySem.W.typeIn K (.ref C) = some (.type "type"))
    (h3 : PySem.W.subIn K (.ref D) (.ref C) = some b) : PySem.W.kitOne K (.ref D) (.ref C) = some b := by
  unfold PySem.W.kitOne
  by_cases e : D = C
  · subst e
    rw [if_pos (by simp), hb rfl]
  · rw [if_neg (fun z => e (Value.ref.inj (eq_of_beq z)))]
    simp only [PySem.W.kitCls, h1, h2, h3]
    first | rfl | simp
theorem kit_type {K : PySem.W.Frag} {D : Addr} {n : String} {b : Bool} (h1 : PySem.W.kitMeta n = true) (h3 : PySem.W.subIn K (.ref D) (.type n) = some b) : PySem.W.kitOne K (.ref D) (.type n) = some b := by
  unfold PySem.W.kitOne
  rw [if_neg (fun z => by cases eq_of_beq z)]
  simp only [PySem.W.kitCls, h1, h3]
  first | rfl | simp
theorem xc_mk {K : PySem.W.Frag} {h : Heap} {mg : Str → Option Value} {x : Str} {C wr : Addr} (X : K.In h) (G : h.Ns mainGlobals mg)
    (a : PySem.W.nsIn K mainGlobals x = some (some (.ref C)))
    (ex : PySem.W.excIn K C [.type "ValueError", .type "Exception", .type "BaseException", .type "object"] "ValueError.__new__" = true)
    (kp : PySem.W.keepIn K (.ref C) = true) (b : PySem.W.subIn K (.ref C) (.type "BaseException") = some true) (t : PySem.W.typeIn K (.ref C) = some (.type "type"))
    (m1 : PySem.W.subIn K (.ref wr) (.type "BaseException") = some true) (m2 : PySem.W.hasDictIn K wr = true) (m3 : PySem.W.typeIn K (.ref wr) = some (.type "type")) (m4 : PySem.W.subIn K (.ref C) (.ref wr) = some true)
    (ve : PySem.W.subIn K (.ref C) (.type "ValueError") = some true) (wc : (PySem.W.clsIn K wr).isSome = true)
    (g1 : PySem.W.findIn K (.ref C) "__getattribute__" = some (some (.builtin "BaseException.__getattribute__"))) (g2 : PySem.W.findIn K (.ref C) "__getattr__" = some none)
    (g4 : PySem.W.hasDictIn K C = true) (g5 : PySem.W.findIn K (.ref C) "__class__" = some (some (.builtin "object.__class__")))
    (g6 : PySem.W.specialIn K (.builtin "object.__class__") "__get__" = some (some (.builtin "getset_descriptor.__get__"))) (g7 : PySem.W.takesIn K (.builtin "object.__class__") = some true)
    (g8 : PySem.W.mroIn K C (.type "object") = some true) : XC K mg x C wr :=
  ⟨PySem.W.mg_of X G a, ex, kp, b, t, PySem.W.exm_ref m1 m2 m3 m4, kit_type (by decide +kernel) ve, kit_ref (fun _ => rfl) wc m3 m4, ⟨g1, g2, b, g4, g5, g6, g7, g8⟩⟩
structure Sd (K : PySem.W.Frag) (e : EA) (D : Addr) (i : Nat) : Prop where
  k0 : PySem.W.subIn K (.ref D) (.ref e.nw) = some (i == 0)
  k1 : PySem.W.subIn K (.ref D) (.ref e.lw) = some (i == 1)
  k2 : PySem.W.subIn K (.ref D) (.ref e.ns) = some (i == 2)
  k3 : PySem.W.subIn K (.ref D) (.ref e.tw) = some (i == 3)
  k4 : PySem.W.subIn K (.ref D) (.ref e.tf) = some (i == 4)
  k5 : PySem.W.subIn K (.ref D) (.ref e.tm) = some (i == 5)
  k6 : PySem.W.subIn K (.ref D) (.ref e.np) = some (i == 6)
  k7 : PySem.W.subIn K (.ref D) (.ref e.nwd) = some (i == 7)
  k8 : PySem.W.subIn K (.ref D) (.ref e.fl) = some (i == 8)
  k9 : PySem.W.subIn K (.ref D) (.ref e.nb) = some (i == 9)
theorem cls_some {K : PySem.W.Frag} {C : Addr} (h : PySem.W.hasDictIn K C = true) : (PySem.W.clsIn K C).isSome = true := by
  obtain ⟨cd, hc, _⟩ := PySem.W.any_some h
  rw [hc]; rfl
theorem kit_refX {K : PySem.W.Frag} {mg : Str → Option Value} {x : Str} {D C wr : Addr} {b : Bool} (c : XC K mg x C wr) (dg : PySem.W.subIn K (.ref C) (.ref C) = some true)
    (h3 : PySem.W.subIn K (.ref D) (.ref C) = some b) : PySem.W.kitOne K (.ref D) (.ref C) = some b := by
  refine kit_ref (fun e => ?_) (cls_some c.c.hd) c.t h3
  subst e
  rw [dg] at h3
  exact (Option.some.inj h3).symm
theorem xs_mk {K : PySem.W.Frag} {h : Heap} {mg : Str → Option Value} {wr a0 a1 a2 a3 a4 a5 a6 a7 a8 a9 : Addr} (X : K.In h) (G : h.Ns mainGlobals mg)
    (w : PySem.W.nsIn K mainGlobals "WrapError" = some (some (.ref wr)))
    (c0 : XC K mg "NoWidth" a0 wr)
    (c1 : XC K mg "LongWord" a1 wr)
    (c2 : XC K mg "NoStarts" a2 wr)
    (c3 : XC K mg "TooWide" a3 wr)
    (c4 : XC K mg "TooFew" a4 wr)
    (c5 : XC K mg "TooMany" a5 wr)
    (c6 : XC K mg "NoPlace" a6 wr)
    (c7 : XC K mg "NoWord" a7 wr)
    (c8 : XC K mg "Full" a8 wr)
    (c9 : XC K mg "NoWayBack" a9 wr)
    (d0 : Sd K ⟨wr, a0, a1, a2, a3, a4, a5, a6, a7, a8, a9⟩ a0 0)
    (d1 : Sd K ⟨wr, a0, a1, a2, a3, a4, a5, a6, a7, a8, a9⟩ a1 1)
    (d2 : Sd K ⟨wr, a0, a1, a2, a3, a4, a5, a6, a7, a8, a9⟩ a2 2)
    (d3 : Sd K ⟨wr, a0, a1, a2, a3, a4, a5, a6, a7, a8, a9⟩ a3 3)
    (d4 : Sd K ⟨wr, a0, a1, a2, a3, a4, a5, a6, a7, a8, a9⟩ a4 4)
    (d5 : Sd K ⟨wr, a0, a1, a2, a3, a4, a5, a6, a7, a8, a9⟩ a5 5)
    (d6 : Sd K ⟨wr, a0, a1, a2, a3, a4, a5, a6, a7, a8, a9⟩ a6 6)
    (d7 : Sd K ⟨wr, a0, a1, a2, a3, a4, a5, a6, a7, a8, a9⟩ a7 7)
    (d8 : Sd K ⟨wr, a0, a1, a2, a3, a4, a5, a6, a7, a8, a9⟩ a8 8)
    (d9 : Sd K ⟨wr, a0, a1, a2, a3, a4, a5, a6, a7, a8, a9⟩ a9 9)
    : Xs K mg ⟨wr, a0, a1, a2, a3, a4, a5, a6, a7, a8, a9⟩ := by
  have kd : ∀ {D : Addr} {i : Nat}, Sd K ⟨wr, a0, a1, a2, a3, a4, a5, a6, a7, a8, a9⟩ D i → Kd K ⟨wr, a0, a1, a2, a3, a4, a5, a6, a7, a8, a9⟩ D i := fun s => ⟨kit_refX c0 d0.k0 s.k0, kit_refX c1 d1.k1 s.k1, kit_refX c2 d2.k2 s.k2, kit_refX c3 d3.k3 s.k3, kit_refX c4 d4.k4 s.k4, kit_refX c5 d5.k5 s.k5, kit_refX c6 d6.k6 s.k6, kit_refX c7 d7.k7 s.k7, kit_refX c8 d8.k8 s.k8, kit_refX c9 d9.k9 s.k9⟩
  exact ⟨PySem.W.mg_of X G w, c0, c1, c2, c3, c4, c5, c6, c7, c8, c9, kd d0, kd d1, kd d2, kd d3, kd d4, kd d5, kd d6, kd d7, kd d8, kd d9⟩
end Tw
namespace Tw
open PySem PySem.Spec PyProof.Rows L2
/-! ### words -/
/-- a drawn word -/
structure Wd (w : List Nat) : Prop where
  ne : w ≠ []
  le : w.length ≤ 300
  sg : ∀ c ∈ w, 33 ≤ c ∧ c ≤ 126
theorem Wd.plain {w : List Nat} (h : Wd w) : plainTx w := fun c hc => by have := h.sg c hc; omega
theorem Wd.pos {w : List Nat} (h : Wd w) : 1 ≤ w.length := by
  have := h.ne
  cases w with
  | nil => exact absurd rfl this
  | cons _ _ => simp
theorem rep_sign (c n : Nat) : (List.replicate n [c]).flatten = List.replicate n c := by
  induction n with
  | zero => rfl
  | succ n ih => rw [List.replicate_succ, List.flatten_cons, ih, List.replicate_succ]; rfl
theorem wd_flatten {ws : List (List Nat)} (h1 : 1 ≤ ws.length) (h2 : ws.length ≤ 300) (h : ∀ x ∈ ws, x.length = 1 ∧ ∀ c ∈ x, 33 ≤ c ∧ c ≤ 126) : Wd ws.flatten := by
  have hl : ws.flatten.length = ws.length := by
    rw [List.length_flatten]
    have : ws.map List.length = ws.map fun _ => 1 := List.map_congr_left fun x hx => (h x hx).1
    rw [this, List.map_const', List.sum_replicate_nat]
    omega
  refine ⟨fun e => ?_, by omega, fun c hc => ?_⟩
  · rw [e] at hl; simp at hl; omega
  · obtain ⟨x, hx, hc⟩ := List.mem_flatten.mp hc
    exact (h x hx).2 c hc
/-- a list of drawn words -/
def Wds (ws : List (List Nat)) : Prop := ws.length ≤ 1600 ∧ ∀ x ∈ ws, Wd x
theorem Wds.flat {ws : List (List Nat)} (h : Wds ws) : (vts ws).all flat = true := flat_vts fun x hx => (h.2 x hx).plain
theorem total_le {ws : List (List Nat)} {b : Nat} (h : ∀ x ∈ ws, x.length ≤ b) : total ws ≤ ws.length * b := by
  induction ws with
  | nil => simp [total]
  | cons w r ih =>
    have h1 := ih fun x hx => h x (List.mem_cons_of_mem _ hx)
    have h2 := h w List.mem_cons_self
    simp only [total, List.map_cons, List.sum_cons, List.length_cons, Nat.succ_mul] at h1 ⊢
    omega
/-- the size of a line of words -/
def lsz (ws : List (List Nat)) : Nat := total ws + (ws.length - 1)
theorem jn_sp : ∀ ws : List (List Nat), (jn [32] ws).length = lsz ws
  | [] => rfl
  | [p] => by simp [jn, lsz, total]
  | p :: q :: r => by
    have h := jn_sp (q :: r)
    show (p ++ ([32] ++ jn [32] (q :: r))).length = _
    rw [List.length_append, List.length_append, h]
    simp only [lsz, total, List.map_cons, List.sum_cons, List.length_cons, List.length_nil]
    omega
/-- the words from a on, up to b -/
def seg (ws : List (List Nat)) (a b : Nat) : List (List Nat) := (ws.drop a).take (b - a)
def size (ws : List (List Nat)) (a b : Nat) : Nat := lsz (seg ws a b)
theorem total_app (a b : List (List Nat)) : total (a ++ b) = total a + total b := by simp [total]
theorem seg_length (ws : List (List Nat)) {a b : Nat} (hb : b ≤ ws.length) : (seg ws a b).length = b - a := by
  unfold seg
  rw [List.length_take, List.length_drop]
  omega
theorem seg_snoc (ws : List (List Nat)) {a b : Nat} (hab : a ≤ b) (hb : b < ws.length) : seg ws a (b + 1) = seg ws a b ++ [ws[b]] := by
  unfold seg
  have e : b + 1 - a = (b - a) + 1 := by omega
  rw [e, List.take_add_one, List.getElem?_drop]
  have e2 : a + (b - a) = b := by omega
  rw [e2, List.getElem?_eq_getElem hb]
  rfl
theorem size_snoc (ws : List (List Nat)) {a b : Nat} (hab : a < b) (hb : b < ws.length) : size ws a (b + 1) = size ws a b + 1 + ws[b].length := by
  unfold size lsz
  have l1 := seg_length ws (a := a) (b := b) (by omega)
  rw [seg_snoc ws (by omega) hb, total_app, List.length_append, l1]
  simp only [total, List.map_cons, List.map_nil, List.sum_cons, List.sum_nil, List.length_cons, List.length_nil]
  omega
theorem size_one (ws : List (List Nat)) {a : Nat} (h : a < ws.length) : size ws a (a + 1) = ws[a].length := by
  unfold size lsz
  rw [seg_snoc ws (Nat.le_refl a) h]
  have e : seg ws a a = [] := by unfold seg; simp
  rw [e]
  simp [total]
theorem size_zero (ws : List (List Nat)) (a : Nat) : size ws a a = 0 := by
  unfold size seg lsz
  simp [total]
/-- the longest word's size -/
def longest (ws : List (List Nat)) : Nat := ws.foldl (fun m w => max m w.length) 0
theorem longest_app (a : List (List Nat)) (w : List Nat) : longest (a ++ [w]) = max (longest a) w.length := by
  simp [longest]
theorem longest_ge {ws : List (List Nat)} {w : List Nat} (hw : w ∈ ws) : w.length ≤ longest ws := by
  have key : ∀ (ws : List (List Nat)) (m : Nat), m ≤ ws.foldl (fun m w => max m w.length) m ∧ ∀ w ∈ ws, w.length ≤ ws.foldl (fun m w => max m w.length) m := by
    intro ws
    induction ws with
    | nil => intro m; exact ⟨Nat.le_refl _, fun _ h => by cases h⟩
    | cons x r ih =>
      intro m
      obtain ⟨h1, h2⟩ := ih (max m x.length)
      refine ⟨Nat.le_trans (Nat.le_max_left _ _) h1, fun w hw => ?_⟩
      rcases List.mem_cons.mp hw with e | hw
      · rw [e]; exact Nat.le_trans (Nat.le_max_right _ _) h1
      · exact h2 w hw
  exact (key ws 0).2 w hw
theorem longest_le {ws : List (List Nat)} {b : Nat} (h : ∀ w ∈ ws, w.length ≤ b) : longest ws ≤ b := by
  have key : ∀ (ws : List (List Nat)) (m : Nat), m ≤ b → (∀ w ∈ ws, w.length ≤ b) → ws.foldl (fun m w => max m w.length) m ≤ b := by
    intro ws
    induction ws with
    | nil => intro m hm _; exact hm
    | cons x r ih =>
      intro m hm h
      exact ih _ (Nat.max_le.mpr ⟨hm, h x List.mem_cons_self⟩) fun w hw => h w (List.mem_cons_of_mem _ hw)
  exact key ws 0 (Nat.zero_le _) h
theorem longest_wds {ws : List (List Nat)} (h : Wds ws) : longest ws ≤ 300 := longest_le fun w hw => (h.2 w hw).le
/-- of bounded words: sums fit -/
theorem seg_mem {ws : List (List Nat)} {a b : Nat} {x : List Nat} (h : x ∈ seg ws a b) : x ∈ ws := List.mem_of_mem_drop (List.mem_of_mem_take h)
theorem size_bound {ws : List (List Nat)} (h : Wds ws) (a b : Nat) : size ws a b ≤ 481600 := by
  unfold size lsz
  have l : (seg ws a b).length ≤ 1600 := by
    unfold seg
    rw [List.length_take, List.length_drop]
    have := h.1
    omega
  have t : total (seg ws a b) ≤ (seg ws a b).length * 300 := total_le fun x hx => (h.2 x (seg_mem hx)).le
  omega
end Tw
namespace Tw
open PySem PySem.Spec PyProof.Rows L2
/-- words that fit in memory, of signs that are signs -/
structure Bw (ws : List (List Nat)) : Prop where
  le : ws.length ≤ 100000
  tot : total ws ≤ 10000000
  pl : ∀ x ∈ ws, plainTx x
theorem Wds.bw {ws : List (List Nat)} (h : Wds ws) : Bw ws :=
  ⟨by have := h.1; omega, by have := total_le (b := 300) fun x hx => (h.2 x hx).le; have := h.1; omega, fun x hx => (h.2 x hx).plain⟩
theorem Bw.flat {ws : List (List Nat)} (h : Bw ws) : (vts ws).all flat = true := flat_vts h.pl
theorem Bw.wl {ws : List (List Nat)} (h : Bw ws) {x : List Nat} (hx : x ∈ ws) : x.length ≤ 10000000 := by
  have h1 : x.length ≤ total ws := le_sum_mem (List.mem_map.mpr ⟨x, hx, rfl⟩)
  have := h.tot
  omega
theorem total_take (ws : List (List Nat)) (n : Nat) : total (ws.take n) ≤ total ws := by
  have h := total_app (ws.take n) (ws.drop n)
  rw [List.take_append_drop] at h
  omega
theorem total_drop (ws : List (List Nat)) (n : Nat) : total (ws.drop n) ≤ total ws := by
  have h := total_app (ws.take n) (ws.drop n)
  rw [List.take_append_drop] at h
  omega
theorem total_seg (ws : List (List Nat)) (a b : Nat) : total (seg ws a b) ≤ total ws := Nat.le_trans (total_take _ _) (total_drop _ _)
theorem seg_le (ws : List (List Nat)) (a b : Nat) : (seg ws a b).length ≤ ws.length := by
  unfold seg
  rw [List.length_take, List.length_drop]
  omega
theorem Bw.size {ws : List (List Nat)} (h : Bw ws) (a b : Nat) : size ws a b ≤ 10100000 := by
  have h1 := total_seg ws a b
  have h2 := seg_le ws a b
  have := h.le
  have := h.tot
  unfold Tw.size lsz
  omega
theorem Bw.take {ws : List (List Nat)} (h : Bw ws) (n : Nat) : Bw (ws.take n) :=
  ⟨by rw [List.length_take]; have := h.le; omega, by have := total_take ws n; have := h.tot; omega, fun x hx => h.pl x (List.mem_of_mem_take hx)⟩
theorem Wds.take {ws : List (List Nat)} (h : Wds ws) (n : Nat) : Wds (ws.take n) :=
  ⟨by rw [List.length_take]; have := h.1; omega, fun x hx => h.2 x (List.mem_of_mem_take hx)⟩
/-- a joined line's length -/
theorem sum_tx (ws : List (List Nat)) : ((ws.map tx).map (·.length)).sum = total ws := by
  unfold total
  rw [List.map_map]
  exact congrArg List.sum (List.map_congr_left fun x _ => tx_len x)
theorem map_vt (ws : List (List Nat)) : (ws.map tx).map V.str = vts ws := by
  rw [List.map_map]; rfl
/-- the place of the first word that is longer -/
def vlong (ws : List (List Nat)) (n : Int) : V := match ws.findIdx? (fun w => decide (n < (w.length : Int))) with
  | none => .non
  | some k => .int k
theorem vlong_some {ws : List (List Nat)} {n : Int} {i : Nat} (hi : i < ws.length) (h1 : ∀ j (h : j < i), ((ws[j]'(by omega)).length : Int) ≤ n) (h2 : n < (ws[i].length : Int)) : vlong ws n = .int i := by
  have e : ws.findIdx? (fun w => decide (n < (w.length : Int))) = some i := by
    rw [List.findIdx?_eq_some_iff_getElem]
    refine ⟨hi, decide_eq_true h2, fun j hj => ?_⟩
    have := h1 j hj
    simp only [decide_eq_true_eq]
    omega
  unfold vlong
  rw [e]
theorem vlong_none {ws : List (List Nat)} {n : Int} (h : ∀ w ∈ ws, (w.length : Int) ≤ n) : vlong ws n = .non := by
  have e : ws.findIdx? (fun w => decide (n < (w.length : Int))) = none := by
    rw [List.findIdx?_eq_none_iff]
    intro w hw
    have := h w hw
    exact decide_eq_false (by omega)
  unfold vlong
  rw [e]
theorem vlong_cases (ws : List (List Nat)) (n : Int) : (vlong ws n = .non ∧ ∀ w ∈ ws, (w.length : Int) ≤ n) ∨ (∃ k : Nat, k < ws.length ∧ vlong ws n = .int k ∧ ∃ w ∈ ws, n < (w.length : Int)) := by
  unfold vlong
  cases e : ws.findIdx? (fun w => decide (n < (w.length : Int))) with
  | none =>
    refine .inl ⟨rfl, fun w hw => ?_⟩
    have := (List.findIdx?_eq_none_iff.mp e) w hw
    have := of_decide_eq_false this
    omega
  | some k =>
    obtain ⟨hk, h1, _⟩ := List.findIdx?_eq_some_iff_getElem.mp e
    exact .inr ⟨k, hk, rfl, ws[k], List.getElem_mem hk, of_decide_eq_true h1⟩
end Tw
namespace Tw
open PySem PySem.Spec PyProof.Rows L2
/-! ### starts of lines -/
/-- from place a on, starts of lines of n words -/
def Ch (n : Nat) : Nat → List Nat → Prop
  | a, [] => a = n
  | a, b :: r => b = a ∧ ∃ e, a < e ∧ e ≤ n ∧ Ch n e r
def toI (ks : List Nat) : List Int := ks.map fun k => ((k : Nat) : Int)
def good (ss : List Int) (n : Nat) : Prop := ∃ ks : List Nat, ss = toI ks ∧ Ch n 0 ks
/-- begins and ends of the lines -/
def pairs (n : Nat) (ks : List Nat) : List (Nat × Nat) := ks.zip (ks.drop 1 ++ [n])
theorem toI_inj {a b : List Nat} (h : toI a = toI b) : a = b := by
  induction a generalizing b with
  | nil => cases b with
    | nil => rfl
    | cons y s => cases h
  | cons x r ih =>
    cases b with
    | nil => cases h
    | cons y s =>
      have h' : ((x : Nat) : Int) = (y : Nat) ∧ toI r = toI s := by
        have := List.cons.inj h
        exact this
      rw [ih h'.2, Int.ofNat_inj.mp h'.1]
theorem toI_length (ks : List Nat) : (toI ks).length = ks.length := List.length_map _
theorem toI_get {ks : List Nat} {k x : Nat} (h : ks[k]? = some x) : (toI ks)[k]? = some (x : Int) := by unfold toI; rw [List.getElem?_map, h]; rfl
theorem toI_app (a b : List Nat) : toI (a ++ b) = toI a ++ toI b := List.map_append
theorem toI_drop (a : List Nat) (k : Nat) : (toI a).drop k = toI (a.drop k) := by unfold toI; rw [List.map_drop]
theorem Ch.le {n : Nat} : ∀ {ks : List Nat} {a : Nat}, Ch n a ks → a ≤ n
  | [], a, h => Nat.le_of_eq h
  | b :: r, a, h => by obtain ⟨_, e, h1, h2, _⟩ := h; omega
theorem pairs_length (n : Nat) (ks : List Nat) : (pairs n ks).length = ks.length := by
  unfold pairs; rw [List.length_zip, List.length_append, List.length_drop, List.length_singleton]; omega
theorem pairs_one (n a : Nat) : pairs n [a] = [(a, n)] := rfl
theorem pairs_cons (n a b : Nat) (r : List Nat) : pairs n (a :: b :: r) = (a, b) :: pairs n (b :: r) := rfl
theorem pairs_get {n : Nat} {ks : List Nat} {k : Nat} {p : Nat × Nat} (h : (pairs n ks)[k]? = some p) : ks[k]? = some p.1 ∧ (ks.drop 1 ++ [n])[k]? = some p.2 := by
  unfold pairs at h
  exact List.getElem?_zip_eq_some.mp h
theorem Ch.pairs {n : Nat} : ∀ {ks : List Nat} {a : Nat}, Ch n a ks → ∀ p ∈ Tw.pairs n ks, a ≤ p.1 ∧ p.1 < p.2 ∧ p.2 ≤ n
  | [], a, _, p, hp => nomatch hp
  | [b], a, h, p, hp => by
    obtain ⟨rfl, e, h1, h2, h3⟩ := h
    rw [pairs_one, List.mem_singleton] at hp
    subst hp
    have : e = n := h3
    subst this
    exact ⟨Nat.le_refl _, h1, h2⟩
  | b :: c :: r, a, h, p, hp => by
    obtain ⟨rfl, e, h1, h2, h3⟩ := h
    rw [pairs_cons] at hp
    have hc : c = e := h3.1
    rcases List.mem_cons.mp hp with z | z
    · subst z; exact ⟨Nat.le_refl _, by omega, by omega⟩
    · have := Ch.pairs h3 p z
      exact ⟨by omega, this.2⟩
theorem Ch.lt {n : Nat} {ks : List Nat} {a : Nat} (h : Ch n a ks) {k : Nat} (hk : k ∈ ks) : k < n := by
  obtain ⟨i, hi, rfl⟩ := List.mem_iff_getElem.mp hk
  have hp : i < (Tw.pairs n ks).length := by rw [pairs_length]; exact hi
  have := pairs_get (List.getElem?_eq_getElem hp)
  rw [List.getElem?_eq_getElem hi] at this
  have h2 := h.pairs _ (List.getElem_mem hp)
  have h3 := Option.some.inj this.1
  omega
theorem Ch.len {n : Nat} : ∀ {ks : List Nat} {a : Nat}, Ch n a ks → a + ks.length ≤ n
  | [], a, h => Nat.le_of_eq h
  | b :: r, a, h => by obtain ⟨_, e, h1, h2, h3⟩ := h; have := Ch.len h3; rw [List.length_cons]; omega
/-- what the tests look at -/
def asc : List Int → Prop
  | x :: y :: r => x < y ∧ asc (y :: r)
  | _ => True
theorem asc_ix : ∀ ss : List Int, asc ss ↔ ∀ k (h : k + 1 < ss.length), ss[k] < ss[k + 1]
  | [] => ⟨fun _ k h => by simp at h, fun _ => trivial⟩
  | [x] => ⟨fun _ k h => by simp at h, fun _ => trivial⟩
  | x :: y :: r => by
    constructor
    · intro h k hk
      cases k with
      | zero => exact h.1
      | succ k => exact (asc_ix (y :: r)).mp h.2 k (by simpa using hk)
    · intro h
      exact ⟨h 0 (by simp), (asc_ix (y :: r)).mpr fun k hk => h (k + 1) (by simpa using hk)⟩
theorem asc_ch : ∀ {r : List Int} {a n : Nat}, asc ((a : Int) :: r) → ((a : Int) :: r).getLast (by simp) < (n : Int) → ∃ ks, ((a : Int) :: r) = toI ks ∧ Ch n a ks
  | [], a, n, _, h2 => ⟨[a], rfl, rfl, n, by
      have : (a : Int) < n := h2
      omega, Nat.le_refl _, rfl⟩
  | y :: r, a, n, h1, h2 => by
    have h3 : (a : Int) < y := h1.1
    obtain ⟨b, rfl⟩ : ∃ b : Nat, y = (b : Int) := ⟨y.toNat, by omega⟩
    obtain ⟨ks, e, c⟩ := asc_ch (r := r) (a := b) (n := n) h1.2 (by simpa using h2)
    exact ⟨a :: ks, by rw [e]; rfl, rfl, b, by omega, c.le, c⟩
theorem ch_asc {n : Nat} : ∀ {ks : List Nat} {a : Nat}, Ch n a ks → asc (toI ks)
  | [], a, _ => trivial
  | [b], a, _ => trivial
  | b :: c :: r, a, h => by
    obtain ⟨rfl, e, h1, h2, h3⟩ := h
    have hc : c = e := h3.1
    exact ⟨show ((b : Nat) : Int) < (c : Nat) by omega, ch_asc h3⟩
theorem good_nil (n : Nat) : good [] n ↔ n = 0 := by
  constructor
  · rintro ⟨ks, h1, h2⟩
    cases ks with
    | nil => have : 0 = n := h2; omega
    | cons x r => cases h1
  · rintro rfl; exact ⟨[], rfl, rfl⟩
theorem good_cons (ss : List Int) (hne : ss ≠ []) (n : Nat) : good ss n ↔ ss.head hne = 0 ∧ ss.getLast hne < (n : Int) ∧ ∀ k (h : k + 1 < ss.length), ss[k] < ss[k + 1] := by
  rw [← asc_ix]
  constructor
  · rintro ⟨ks, rfl, h2⟩
    have ha := ch_asc h2
    cases ks with
    | nil => exact absurd rfl hne
    | cons b r =>
      refine ⟨by have := h2.1; subst this; rfl, ?_, ha⟩
      have hm := List.getLast_mem hne
      obtain ⟨k, hk, e⟩ := List.mem_map.mp hm
      rw [← e]
      have := h2.lt hk
      show ((k : Nat) : Int) < n
      omega
  · rintro ⟨h1, h2, h3⟩
    cases ss with
    | nil => exact absurd rfl hne
    | cons x r =>
      have hx : x = ((0 : Nat) : Int) := h1
      subst hx
      exact asc_ch h3 h2
theorem atI_neg1 {α : Type} {xs : List α} (h : xs ≠ []) : atI xs (-1) = some (xs.getLast h) := by
  have e := List.dropLast_concat_getLast h
  have := atI_last xs.dropLast (xs.getLast h)
  rw [e] at this
  exact this
theorem vis_last {ss : List Int} (h : ss ≠ []) : atI (vis ss) (-1) = some (V.int (ss.getLast h)) := by
  have hv : vis ss ≠ [] := fun z => h (List.map_eq_nil_iff.mp z)
  rw [atI_neg1 hv, List.getLast_map]
theorem ends_vis (ks : List Nat) (n : Nat) : vis ((toI ks).drop 1) ++ [V.int (n : Nat)] = vis (toI (ks.drop 1 ++ [n])) := by
  rw [toI_drop, toI_app]; exact (vis_app _ _).symm
/-! ### sums -/
/-- the squared gap of a line -/
def pr (ws : List (List Nat)) (wd : Int) (a e : Nat) : Int := if e = ws.length then 0 else (wd - (size ws a e : Nat)) * (wd - (size ws a e : Nat))
def sm (ws : List (List Nat)) (wd : Int) (ks : List Nat) : Int := ((pairs ws.length ks).map fun p => pr ws wd p.1 p.2).sum
def lns (ws : List (List Nat)) (ks : List Nat) : List (List Nat) := (pairs ws.length ks).map fun p => jn [32] (seg ws p.1 p.2)
theorem lns_length (ws : List (List Nat)) (ks : List Nat) : (lns ws ks).length = ks.length := by unfold lns; rw [List.length_map, pairs_length]
theorem pr_nonneg (ws : List (List Nat)) (wd : Int) (a e : Nat) : 0 ≤ pr ws wd a e := by
  unfold pr; split
  · exact Int.le_refl _
  · generalize wd - ((size ws a e : Nat) : Int) = z
    rcases Int.le_total 0 z with h | h
    · exact Int.mul_nonneg h h
    · exact Int.mul_nonneg_of_nonpos_of_nonpos h h
/-- an operation's answer, told otherwise -/
theorem rI_at {R : Int → Int → Prop} {g : Int → Int → V} {i j : Int} {v : V} {H : Hp} {Q : VK} (hv : g i j = v) (hc : R i j) (q : Q v H) : rI R g (.int i) (.int j) H Q := ⟨i, j, rfl, rfl, hc, by rw [hv]; exact q⟩
theorem rI0_at {g : Int → Int → V} {i j : Int} {v : V} {H : Hp} {Q : VK} (hv : g i j = v) (q : Q v H) : rI0 g (.int i) (.int j) H Q := ⟨i, j, rfl, rfl, by rw [hv]; exact q⟩
end Tw
namespace Tw
open PySem PySem.Spec PyProof.Rows L2
/-! ### widths, greatest sizes, sums -/
def Wb (n : Int) : Prop := n.natAbs < 2 ^ 120
theorem Wb.sub {n : Int} (h : Wb n) {k : Nat} (hk : k ≤ 100000000) : (n - (k : Nat)).natAbs < 2 ^ 121 := by unfold Wb at h; omega
theorem Wb.mul {n : Int} (h : Wb n) {k : Nat} (hk : k ≤ 100000000) : CMulW (n - (k : Nat)) (n - (k : Nat)) := wide_mul (h.sub hk) (h.sub hk) (by decide) (by decide) (by decide)
theorem Wb.pow {n : Int} (h : Wb n) {k : Nat} (hk : k ≤ 100000000) : (Builtin.Int.intBits (n - (k : Nat)) : Int) * 2 ≤ 2 ^ 27 := by
  have := intBits_le_iff.mpr (h.sub hk)
  omega
theorem Wb.sm {n : Int} (h1 : -1000000000 ≤ n) (h2 : n ≤ 10 ^ 30 + 1000000000) : Wb n := by unfold Wb; omega
theorem pow_two' (i : Int) : i ^ (2 : Int).toNat = i * i := by
  show i ^ 2 = i * i
  rw [Int.pow_succ, Int.pow_succ, Int.pow_zero, Int.one_mul]
def mx (l : List Nat) : Nat := l.foldl max 0
theorem mx_app (l : List Nat) (x : Nat) : mx (l ++ [x]) = max (mx l) x := by unfold mx; rw [List.foldl_append]; rfl
theorem mx_from (l : List Nat) (m : Nat) : l.foldl max m = max m (mx l) := by
  induction l generalizing m with
  | nil => simp [mx]
  | cons x r ih =>
    show r.foldl max (max m x) = max m (r.foldl max (max 0 x))
    rw [ih, ih (max 0 x)]; omega
theorem mx_cons (l : List Nat) (x : Nat) : mx (x :: l) = max x (mx l) := by
  show l.foldl max (max 0 x) = _
  rw [mx_from]; omega
theorem mx_ge {l : List Nat} {x : Nat} (h : x ∈ l) : x ≤ mx l := by
  induction l with
  | nil => cases h
  | cons y r ih =>
    rw [mx_cons]
    rcases List.mem_cons.mp h with z | z
    · omega
    · have := ih z; omega
theorem mx_le {l : List Nat} {b : Nat} (h : ∀ x ∈ l, x ≤ b) : mx l ≤ b := by
  induction l with
  | nil => exact Nat.zero_le _
  | cons y r ih =>
    rw [mx_cons]
    have := ih fun x hx => h x (List.mem_cons_of_mem _ hx)
    have := h y (List.mem_cons_self ..)
    omega
/-- the greatest of the lines' sizes -/
def gr (ws : List (List Nat)) (ks : List Nat) : Nat := mx ((pairs ws.length ks).map fun p => size ws p.1 p.2)
theorem gr_ge {ws : List (List Nat)} {ks : List Nat} {p : Nat × Nat} (h : p ∈ pairs ws.length ks) : size ws p.1 p.2 ≤ gr ws ks := mx_ge (List.mem_map.mpr ⟨p, h, rfl⟩)
theorem gr_le {ws : List (List Nat)} {ks : List Nat} {b : Nat} (h : ∀ p ∈ pairs ws.length ks, size ws p.1 p.2 ≤ b) : gr ws ks ≤ b := mx_le fun x hx => by
  obtain ⟨p, hp, rfl⟩ := List.mem_map.mp hx
  exact h p hp
/-- sums, line by line -/
def smTo (ws : List (List Nat)) (wd : Int) (ks : List Nat) (i : Nat) : Int := (((pairs ws.length ks).take i).map fun p => pr ws wd p.1 p.2).sum
theorem smTo_all (ws : List (List Nat)) (wd : Int) (ks : List Nat) : smTo ws wd ks ks.length = sm ws wd ks := by
  unfold smTo sm; rw [List.take_of_length_le (by rw [pairs_length]; exact Nat.le_refl _)]
theorem smTo_succ {ws : List (List Nat)} {wd : Int} {ks : List Nat} {i : Nat} {p : Nat × Nat} (h : (pairs ws.length ks)[i]? = some p) : smTo ws wd ks (i + 1) = smTo ws wd ks i + pr ws wd p.1 p.2 := by
  unfold smTo; rw [List.take_add_one, h, Option.toList_some, List.map_append, List.sum_append]; simp
def grTo (ws : List (List Nat)) (ks : List Nat) (i : Nat) : Nat := mx (((pairs ws.length ks).take i).map fun p => size ws p.1 p.2)
theorem grTo_all (ws : List (List Nat)) (ks : List Nat) : grTo ws ks ks.length = gr ws ks := by
  unfold grTo gr; rw [List.take_of_length_le (by rw [pairs_length]; exact Nat.le_refl _)]
theorem grTo_succ {ws : List (List Nat)} {ks : List Nat} {i : Nat} {p : Nat × Nat} (h : (pairs ws.length ks)[i]? = some p) : grTo ws ks (i + 1) = max (grTo ws ks i) (size ws p.1 p.2) := by
  unfold grTo; rw [List.take_add_one, h, Option.toList_some, List.map_append, List.map_singleton, mx_app]
theorem pr_last {ws : List (List Nat)} {wd : Int} {a e : Nat} (h : e = ws.length) : pr ws wd a e = 0 := if_pos h
theorem pr_gap {ws : List (List Nat)} {wd : Int} {a e : Nat} (h : ¬ e = ws.length) : pr ws wd a e = (wd - (size ws a e : Nat)) * (wd - (size ws a e : Nat)) := if_neg h
theorem mxI (i j : Nat) : (if ((j : Nat) : Int) > (i : Nat) then ((j : Nat) : Int) else ((i : Nat) : Int)) = ((max i j : Nat) : Int) := by split <;> omega
end Tw
namespace Tw
open PySem PySem.Spec PyProof.Rows L2
/-! ### while loops: no law about the test is wanted -/
theorem while_N {c : TT} {tb : TS} {D : Ends} {σ : L2.St} {H : Hp} (Pv : L2.St → Hp → Prop) (μ : L2.St → Hp → Nat) (h0 : Pv σ H)
    (hs : ∀ σ H, Pv σ H → c σ H fun b H1 => if b = true then ∃ N : L2.St → Hp → Prop, (∀ σ' H', N σ' H' → ∃ m', m' < μ σ H ∧ (m' = μ σ' H' ∧ Pv σ' H')) ∧ tb { D with nx := N, ct := N, bk := D.nx } σ H1 else D.nx σ H1) :
    tWhile c tb D σ H := ⟨fun m σ H => m = μ σ H ∧ Pv σ H, ⟨_, rfl, h0⟩, by rintro m σ H ⟨rfl, p⟩; exact hs σ H p⟩
/-! ### sizes by sums of what stands ahead -/
theorem total_seg_P (ws : List (List Nat)) {a c : Nat} (h : a ≤ c) : total (ws.take a) + total (seg ws a c) = total (ws.take c) := by
  have : ws.take c = ws.take a ++ seg ws a c := by
    unfold seg
    have h1 : c = a + (c - a) := by omega
    conv => lhs; rw [h1]
    rw [List.take_add]
  rw [this, total_app]
theorem size_P (ws : List (List Nat)) {a c : Nat} (h : a < c) (hc : c ≤ ws.length) : size ws a c + total (ws.take a) = total (ws.take c) + (c - a - 1) := by
  unfold size lsz
  have := total_seg_P ws (Nat.le_of_lt h)
  rw [seg_length ws hc]
  omega
theorem P_mono (ws : List (List Nat)) {a c : Nat} (h : a ≤ c) : total (ws.take a) ≤ total (ws.take c) := by have := total_seg_P ws h; omega
theorem size_mono {ws : List (List Nat)} {a b c d : Nat} (h1 : b ≤ a) (h2 : a < c) (h3 : c ≤ d) (h4 : d ≤ ws.length) : size ws a c ≤ size ws b d := by
  have e1 := size_P ws h2 (by omega)
  have e2 := size_P ws (show b < d by omega) h4
  have e3 := P_mono ws h1
  have e4 := P_mono ws h3
  omega
/-! ### lines that fit -/
def Fc (ws : List (List Nat)) (wd : Int) : Nat → List Nat → Prop
  | a, [] => a = ws.length
  | a, b :: r => b = a ∧ ∃ e, a < e ∧ e ≤ ws.length ∧ ((size ws a e : Nat) : Int) ≤ wd ∧ Fc ws wd e r
theorem Fc.ch {ws : List (List Nat)} {wd : Int} : ∀ {ks : List Nat} {a : Nat}, Fc ws wd a ks → Ch ws.length a ks
  | [], _, h => h
  | _ :: _, _, h => by obtain ⟨h1, e, h2, h3, _, h5⟩ := h; exact ⟨h1, e, h2, h3, h5.ch⟩
theorem Fc.fits {ws : List (List Nat)} {wd : Int} : ∀ {ks : List Nat} {a : Nat}, Fc ws wd a ks → ∀ p ∈ pairs ws.length ks, ((size ws p.1 p.2 : Nat) : Int) ≤ wd
  | [], _, _, p, hp => nomatch hp
  | [b], a, h, p, hp => by
    obtain ⟨rfl, e, h2, h3, h4, h5⟩ := h
    rw [pairs_one, List.mem_singleton] at hp
    subst hp
    have : e = ws.length := h5
    subst this
    exact h4
  | b :: c :: r, a, h, p, hp => by
    obtain ⟨rfl, e, h2, h3, h4, h5⟩ := h
    rw [pairs_cons] at hp
    have hc : c = e := h5.1
    rcases List.mem_cons.mp hp with z | z
    · subst z; subst hc; exact h4
    · exact Fc.fits h5 p z
/-- all words fit -/
def Ft (ws : List (List Nat)) (wd : Int) : Prop := 1 ≤ wd ∧ ∀ w ∈ ws, (w.length : Int) ≤ wd
theorem Ft.one {ws : List (List Nat)} {wd : Int} (h : Ft ws wd) {a : Nat} (ha : a < ws.length) : ((size ws a (a + 1) : Nat) : Int) ≤ wd := by
  rw [size_one ws ha]; exact h.2 _ (List.getElem_mem ha)
theorem Ft.of {ws : List (List Nat)} {wd : Int} (h1 : 1 ≤ wd) (h2 : ((longest ws : Nat) : Int) ≤ wd) : Ft ws wd := ⟨h1, fun w hw => by have := longest_ge hw; omega⟩
theorem Ft.vlong {ws : List (List Nat)} {wd : Int} (h : Ft ws wd) : vlong ws wd = .non := vlong_none h.2
/-! ### quick starts -/
def Qk (ws : List (List Nat)) (wd : Int) : Nat → List Nat → Prop
  | a, [] => a = ws.length
  | a, b :: r => b = a ∧ ∃ e, a < e ∧ e ≤ ws.length ∧ ((size ws a e : Nat) : Int) ≤ wd ∧ (e = ws.length ∨ wd < ((size ws a (e + 1) : Nat) : Int)) ∧ Qk ws wd e r
theorem Qk.fc {ws : List (List Nat)} {wd : Int} : ∀ {ks : List Nat} {a : Nat}, Qk ws wd a ks → Fc ws wd a ks
  | [], _, h => h
  | _ :: _, _, h => by obtain ⟨h1, e, h2, h3, h4, _, h5⟩ := h; exact ⟨h1, e, h2, h3, h4, h5.fc⟩
theorem Qk.next {ws : List (List Nat)} {wd : Int} : ∀ {ks : List Nat} {a : Nat}, Qk ws wd a ks → ∀ (k x y : Nat), ks[k]? = some x → ks[k + 1]? = some y → wd < ((size ws x (y + 1) : Nat) : Int)
  | [], _, _, k, x, y, h, _ => by simp at h
  | [b], _, _, k, x, y, _, h => by simp at h
  | b :: c :: r, a, h, k, x, y, hx, hy => by
    obtain ⟨rfl, e, h2, h3, h4, h5, h6⟩ := h
    cases k with
    | zero =>
      have hc : c = e := h6.1
      obtain ⟨_, e', g1, g2, _⟩ := h6
      cases hx; cases hy
      subst hc
      rcases h5 with z | z
      · omega
      · exact z
    | succ k => exact Qk.next h6 k x y hx hy
theorem Qk.least {ws : List (List Nat)} {wd : Int} : ∀ {ks os : List Nat} {a b : Nat}, b ≤ a → Qk ws wd a ks → Fc ws wd b os → ks.length ≤ os.length ∧ ∀ (k x y : Nat), ks[k]? = some x → os[k]? = some y → y ≤ x
  | [], os, a, b, _, _, _ => ⟨Nat.zero_le _, fun k x y h => by simp at h⟩
  | x0 :: r, [], a, b, hb, h, g => by
    obtain ⟨_, e, h2, h3, _⟩ := h
    have : b = ws.length := g
    omega
  | x0 :: r, y0 :: t, a, b, hb, h, g => by
    obtain ⟨rfl, e, h2, h3, h4, h5, h6⟩ := h
    obtain ⟨rfl, e', g2, g3, g4, g5⟩ := g
    have he : e' ≤ e := by
      rcases h5 with z | z
      · omega
      · rcases Nat.lt_or_ge e e' with l | l
        · have := size_mono (ws := ws) hb (show x0 < e + 1 by omega) (show e + 1 ≤ e' by omega) g3
          omega
        · exact l
    obtain ⟨i1, i2⟩ := Qk.least he h6 g5
    refine ⟨Nat.succ_le_succ i1, fun k x y hx hy => ?_⟩
    cases k with
    | zero => cases hx; cases hy; exact hb
    | succ k => exact i2 k x y hx hy
/-! ### the table -/
/-- the greatest end that leads to the least sum -/
def Best (ws : List (List Nat)) (wd : Int) (T : Nat → Int) (a e : Nat) : Prop := a < e ∧ e ≤ ws.length ∧ ((size ws a e : Nat) : Int) ≤ wd ∧
  ∀ e', a < e' → e' ≤ ws.length → ((size ws a e' : Nat) : Int) ≤ wd → pr ws wd a e + T e ≤ pr ws wd a e' + T e' ∧ (pr ws wd a e + T e = pr ws wd a e' + T e' → e' ≤ e)
def Tab (ws : List (List Nat)) (wd : Int) (T : Nat → Int) : Prop := T ws.length = 0 ∧ ∀ a, a < ws.length → ∃ e, Best ws wd T a e ∧ T a = pr ws wd a e + T e
theorem Best.only {ws : List (List Nat)} {wd : Int} {T : Nat → Int} {a e e' : Nat} (h : Best ws wd T a e) (h' : Best ws wd T a e') : e = e' := by
  have h1 := h.2.2.2 e' h'.1 h'.2.1 h'.2.2.1
  have h2 := h'.2.2.2 e h.1 h.2.1 h.2.2.1
  have h3 := h1.2 (by omega)
  have h4 := h2.2 (by omega)
  omega
/-- starts that a table leads to -/
def Bc (ws : List (List Nat)) (wd : Int) (T : Nat → Int) : Nat → List Nat → Prop
  | a, [] => a = ws.length
  | a, b :: r => b = a ∧ ∃ e, Best ws wd T a e ∧ Bc ws wd T e r
theorem Bc.fc {ws : List (List Nat)} {wd : Int} {T : Nat → Int} : ∀ {ks : List Nat} {a : Nat}, Bc ws wd T a ks → Fc ws wd a ks
  | [], _, h => h
  | _ :: _, _, h => by obtain ⟨h1, e, hb, h5⟩ := h; exact ⟨h1, e, hb.1, hb.2.1, hb.2.2.1, h5.fc⟩
theorem Bc.only {ws : List (List Nat)} {wd : Int} {T : Nat → Int} : ∀ {ks os : List Nat} {a : Nat}, Bc ws wd T a ks → Bc ws wd T a os → ks = os
  | [], [], _, _, _ => rfl
  | [], y :: s, a, h, g => by
    obtain ⟨_, e, hb, _⟩ := g
    have : a = ws.length := h
    have := hb.1; have := hb.2.1
    omega
  | x :: r, [], a, h, g => by
    obtain ⟨_, e, hb, _⟩ := h
    have : a = ws.length := g
    have := hb.1; have := hb.2.1
    omega
  | x :: r, y :: s, a, h, g => by
    obtain ⟨rfl, e, hb, h5⟩ := h
    obtain ⟨rfl, e', hb', g5⟩ := g
    have := hb.only hb'
    subst this
    rw [Bc.only h5 g5]
/-- sums line by line from a start on -/
theorem sm_one (ws : List (List Nat)) (wd : Int) (a : Nat) : sm ws wd [a] = pr ws wd a ws.length := by unfold sm; rw [pairs_one]; simp
theorem sm_cons (ws : List (List Nat)) (wd : Int) (a b : Nat) (r : List Nat) : sm ws wd (a :: b :: r) = pr ws wd a b + sm ws wd (b :: r) := by
  unfold sm; rw [pairs_cons, List.map_cons, List.sum_cons]
theorem sm_step {ws : List (List Nat)} {wd : Int} {a e : Nat} {r : List Nat} (h : Ch ws.length e r) : sm ws wd (a :: r) = pr ws wd a e + sm ws wd r := by
  cases r with
  | nil =>
    have : e = ws.length := h
    subst this
    rw [sm_one]; simp [sm, pairs]
  | cons c t =>
    have : c = e := h.1
    subst this
    exact sm_cons ..
theorem Tab.sum {ws : List (List Nat)} {wd : Int} {T : Nat → Int} (t : Tab ws wd T) : ∀ {ks : List Nat} {a : Nat}, Bc ws wd T a ks → sm ws wd ks = T a
  | [], a, h => by
    have : a = ws.length := h
    subst this
    rw [t.1]; rfl
  | x :: r, a, h => by
    obtain ⟨rfl, e, hb, h5⟩ := h
    rw [sm_step h5.fc.ch, Tab.sum t h5]
    obtain ⟨e', hb', he⟩ := t.2 x (by have := hb.1; have := hb.2.1; omega)
    rw [he, hb.only hb']
theorem Tab.le {ws : List (List Nat)} {wd : Int} {T : Nat → Int} (t : Tab ws wd T) : ∀ {os : List Nat} {a : Nat}, Fc ws wd a os → T a ≤ sm ws wd os
  | [], a, h => by
    have : a = ws.length := h
    subst this
    rw [t.1]; exact Int.le_refl _
  | x :: r, a, h => by
    obtain ⟨rfl, e, h2, h3, h4, h5⟩ := h
    rw [sm_step h5.ch]
    have := Tab.le t h5
    obtain ⟨e', hb', he⟩ := t.2 x (by omega)
    have := (hb'.2.2.2 e h2 h3 h4).1
    omega
/-- which of two lists of numbers goes first -/
def lexLt : List Int → List Int → Bool
  | [], [] => false
  | [], _ :: _ => true
  | _ :: _, [] => false
  | x :: r, y :: s => decide (x < y) || (decide (x = y) && lexLt r s)
theorem Tab.tie {ws : List (List Nat)} {wd : Int} {T : Nat → Int} (t : Tab ws wd T) : ∀ {ks os : List Nat} {a : Nat}, Bc ws wd T a ks → Fc ws wd a os → sm ws wd os = T a →
    lexLt (toI (ks ++ [ws.length])) (toI (os ++ [ws.length])) = false
  | [], [], a, h, g, _ => by show lexLt [((ws.length : Nat) : Int)] [((ws.length : Nat) : Int)] = false; simp [lexLt]
  | [], y :: s, a, h, g, _ => by
    obtain ⟨_, e, g1, g2, _⟩ := g
    have : a = ws.length := h
    omega
  | x :: r, [], a, h, g, _ => by
    obtain ⟨_, e, hb, _⟩ := h
    have : a = ws.length := g
    have := hb.1; have := hb.2.1
    omega
  | x :: r, y :: s, a, h, g, hs => by
    obtain ⟨rfl, e, hb, h5⟩ := h
    obtain ⟨rfl, e', g2, g3, g4, g5⟩ := g
    rw [sm_step g5.ch] at hs
    have h6 := Tab.le t g5
    obtain ⟨e2, hb', he⟩ := t.2 y (by omega)
    have := hb.only hb'
    subst this
    have h7 := hb.2.2.2 e' g2 g3 g4
    have h8 : e' ≤ e := h7.2 (by omega)
    show (decide (((y : Nat) : Int) < (y : Nat)) || (decide (((y : Nat) : Int) = (y : Nat)) && lexLt (toI (r ++ [ws.length])) (toI (s ++ [ws.length])))) = false
    rw [decide_eq_false (Int.lt_irrefl _), Bool.false_or, decide_eq_true rfl, Bool.true_and]
    rcases Nat.lt_or_eq_of_le h8 with z | z
    · have f1 : ∃ r', toI (r ++ [ws.length]) = (e : Int) :: r' := by
        cases r with
        | nil => have : e = ws.length := h5; subst this; exact ⟨[], rfl⟩
        | cons c r' => have : c = e := h5.1; subst this; exact ⟨_, rfl⟩
      have f2 : ∃ s', toI (s ++ [ws.length]) = (e' : Int) :: s' := by
        cases s with
        | nil => have : e' = ws.length := g5; subst this; exact ⟨[], rfl⟩
        | cons c s' => have : c = e' := g5.1; subst this; exact ⟨_, rfl⟩
      obtain ⟨r', f1⟩ := f1
      obtain ⟨s', f2⟩ := f2
      rw [f1, f2]
      unfold lexLt
      rw [decide_eq_false (by omega), decide_eq_false (by omega)]; rfl
    · subst z
      exact Tab.tie t h5 g5 (by omega)
end Tw
namespace Tw
open PySem PySem.Spec PyProof.Rows L2
/-! ### < on lists of ints -/
theorem firstLt_map (e r : Nat → Bool) (z : Bool) (f : Nat → Nat) : ∀ l : List Nat, SeqAt.firstLt e r z (l.map f) = SeqAt.firstLt (fun j => e (f j)) (fun j => r (f j)) z l
  | [] => rfl
  | j :: t => by
    show (if e (f j) = true then SeqAt.firstLt e r z (t.map f) else r (f j)) = (if e (f j) = true then SeqAt.firstLt (fun j => e (f j)) (fun j => r (f j)) z t else r (f j))
    rw [firstLt_map e r z f t]
theorem firstLt_lex : ∀ ns ms : List Int, SeqAt.firstLt (fun j => decide (ns.getD j 0 = ms.getD j 0)) (fun j => decide (ns.getD j 0 < ms.getD j 0)) (decide (ns.length < ms.length)) (List.range (min ns.length ms.length)) = lexLt ns ms
  | [], [] => rfl
  | [], y :: s => by simp [SeqAt.firstLt, lexLt]
  | x :: r, [] => by simp [SeqAt.firstLt, lexLt]
  | x :: r, y :: s => by
    have ih := firstLt_lex r s
    have e1 : min (x :: r).length (y :: s).length = min r.length s.length + 1 := by simp only [List.length_cons]; omega
    have e2 : decide ((x :: r).length < (y :: s).length) = decide (r.length < s.length) := by simp only [List.length_cons, decide_eq_decide]; omega
    rw [e1, e2, List.range_succ_eq_map]
    show (if decide (x = y) = true then SeqAt.firstLt _ _ _ (List.map Nat.succ (List.range (min r.length s.length))) else decide (x < y)) = lexLt (x :: r) (y :: s)
    rw [firstLt_map]
    show (if decide (x = y) = true then SeqAt.firstLt (fun j => decide (r.getD j 0 = s.getD j 0)) (fun j => decide (r.getD j 0 < s.getD j 0)) (decide (r.length < s.length)) (List.range (min r.length s.length)) else decide (x < y)) = (decide (x < y) || (decide (x = y) && lexLt r s))
    rw [ih]
    by_cases h : x = y
    · subst h
      rw [decide_eq_true rfl, if_pos rfl, decide_eq_false (Int.lt_irrefl x)]; simp
    · rw [decide_eq_false h, if_neg Bool.false_ne_true]; simp
def rLtL (K : PySem.W.Frag) : R2 := fun x y H Q => ∃ (a b : Addr) (ns ms : List Int), x = .ref a ∧ y = .ref b ∧ SqL K H a (vis ns) ∧ SqL K H b (vis ms) ∧ Q (.bl (lexLt ns ms)) H
theorem op_ltL {X : Cx} {k : Nat} (hr : Room k X.A) : OpR X (compareOp .Lt) (rLtL X.K) := by
  intro pins s σ H x y v u Q I rx ry h
  obtain ⟨a, b, ns, ms, rfl, rfl, ha, hb, q⟩ := h
  cases rx
  cases ry
  obtain ⟨its, r1, p1, _⟩ := I.list ha
  obtain ⟨its2, r2, p2, _⟩ := I.list hb
  have i1 : IntsAre its ns := Vals.ints r1
  have i2 : IntsAre its2 ms := Vals.ints r2
  have e1 : its.toArray.size = ns.length := by rw [List.size_toArray]; exact i1.length
  have e2 : its2.toArray.size = ms.length := by rw [List.size_toArray]; exact i2.length
  have at1 : ∀ j (h1 : j < its.toArray.size), ∃ t, its.toArray[j] = .int (ns.getD j 0) t := fun j h1 => PyProof.Rows.IntsAre.int_at i1 _ _ (by simp at h1; simp [h1])
  have at2 : ∀ j (h1 : j < its2.toArray.size), ∃ t, its2.toArray[j] = .int (ms.getD j 0) t := fun j h1 => PyProof.Rows.IntsAre.int_at i2 _ _ (by simp at h1; simp [h1])
  have R := SeqAt.RcLt.lists (A := X.A) (s := s) (e := fun j => decide (ns.getD j 0 = ms.getD j 0)) (r := fun j => decide (ns.getD j 0 < ms.getD j 0)) p1.isList p2.isList (by have := hr.units; omega) (fun j h1 h2 => by
    obtain ⟨t, et⟩ := at1 j h1
    obtain ⟨t', et'⟩ := at2 j h2
    rw [et, et']
    have z : (ns.getD j 0 == ms.getD j 0) = decide (ns.getD j 0 = ms.getD j 0) := by
      by_cases q : ns.getD j 0 = ms.getD j 0
      · rw [decide_eq_true q]; exact beq_iff_eq.mpr q
      · rw [decide_eq_false q]; exact beq_eq_false_iff_ne.mpr q
    rw [← z]
    exact SeqAt.EqAt.int_int _ _ _ _) (fun j h1 h2 _ => by
    obtain ⟨t, et⟩ := at1 j h1
    obtain ⟨t', et'⟩ := at2 j h2
    rw [et, et']
    exact fun _ _ _ _ h => PyProof.Rows.lt_int h)
  rw [e1, e2, firstLt_lex] at R
  have z : wpAny (model X.prog X.w) X.A (compareOp .Lt (.ref a) (.ref b)) (EP X pins σ Q) X.xe s := R X.prog X.w X.xe (EP X pins σ Q) ⟨.bl _, H, I, rfl, q⟩
  exact z
end Tw
namespace Tw
open PySem PySem.Spec PyProof.Rows L2
/-! ### rows and paragraphs -/
def rows (h : List Nat) : List Nat → List (List Nat)
  | [] => [h]
  | c :: r => if c = 10 then h :: rows [] r else rows (h ++ [c]) r
theorem pre_nl (c : Nat) (r : List Nat) : TL.pre [10] (c :: r) = decide (c = 10) := by
  by_cases h : c = 10
  · subst h; simp [TL.pre]
  · simp [TL.pre, h]
    try (exact fun z => h z.symm)
theorem spl_rows : ∀ (l h : List Nat), TL.spl [10] 0 h l = rows h l
  | [], h => by simp [TL.spl, rows]
  | c :: r, h => by
    simp only [TL.spl, rows]
    rw [pre_nl]
    by_cases e : c = 10
    · rw [decide_eq_true e, if_pos rfl, if_pos e]
      show h :: TL.spl [10] 0 [] r = _
      rw [spl_rows r []]
    · rw [decide_eq_false e, if_neg Bool.false_ne_true, if_neg e, spl_rows r (h ++ [c])]
theorem split_tx (l : List Nat) : Txt.split (tx l) (tx [10]) = (rows [] l).map tx := by
  have h := TL.split_spl (tx l) (tx [10]) (by decide) (by
    have e : Builtin.Str.strKind (tx [10]) = 1 := by decide +kernel
    rw [e]
    unfold Builtin.Str.strKind
    split
    · decide
    · split <;> decide)
  have tlx : ∀ x : List Nat, TL.tl (tx x) = x := fun x => tx_list x
  rw [tlx, tlx, spl_rows] at h
  rw [← h, List.map_map]
  rw [show (tx ∘ TL.tl) = (id : Str → Str) from funext fun s => (str_tx s).symm, List.map_id]
theorem rows_length : ∀ (l h : List Nat), (rows h l).length ≤ l.length + 1
  | [], h => by simp [rows]
  | c :: r, h => by
    simp only [rows]
    have h1 := rows_length r []
    have h2 := rows_length r (h ++ [c])
    simp only [List.length_cons]
    split
    · simp only [List.length_cons]; omega
    · omega
theorem rows_total : ∀ (l h : List Nat), total (rows h l) ≤ h.length + l.length
  | [], h => by simp [rows, total]
  | c :: r, h => by
    simp only [rows]
    have h1 := rows_total r []
    have h2 := rows_total r (h ++ [c])
    simp only [List.length_append, List.length_cons, List.length_nil] at h1 h2 ⊢
    split
    · simp only [total, List.map_cons, List.sum_cons] at h1 ⊢; omega
    · omega
theorem rows_mem : ∀ (l h : List Nat) {x : List Nat} {c : Nat}, x ∈ rows h l → c ∈ x → c ∈ h ∨ (c ∈ l ∧ c ≠ 10)
  | [], h, x, c, hx, hc => by
    rw [List.mem_singleton.mp (show x ∈ [h] from hx)] at hc; exact .inl hc
  | d :: r, h, x, c, hx, hc => by
    simp only [rows] at hx
    split at hx
    · rcases List.mem_cons.mp hx with e | hx
      · rw [e] at hc; exact .inl hc
      · rcases rows_mem r [] hx hc with z | z
        · cases z
        · exact .inr ⟨List.mem_cons_of_mem _ z.1, z.2⟩
    · rename_i hd
      rcases rows_mem r (h ++ [d]) hx hc with z | z
      · rcases List.mem_append.mp z with z | z
        · exact .inl z
        · rw [List.mem_singleton.mp z]; exact .inr ⟨List.mem_cons_self, hd⟩
      · exact .inr ⟨List.mem_cons_of_mem _ z.1, z.2⟩
/-- the paragraphs of rows, h the words held -/
def paras (h : List (List Nat)) : List (List Nat) → List (List (List Nat))
  | [] => if h = [] then [] else [h]
  | r :: rs => if wcut [] r = [] ∧ h ≠ [] then h :: paras [] rs else paras (h ++ wcut [] r) rs
def parts (l : List Nat) : List (List (List Nat)) := paras [] (rows [] l)
/-- the same sign by sign: h the open paragraph's words, w whether this row has one, v the word held -/
def go (h : List (List Nat)) (w : Bool) (v : List Nat) : List Nat → List (List (List Nat))
  | [] => if h ++ (if v = [] then [] else [v]) = [] then [] else [h ++ (if v = [] then [] else [v])]
  | c :: t =>
    if c = 10 then
      (if v = [] ∧ w = false ∧ h ≠ [] then h :: go [] false [] t else go (h ++ (if v = [] then [] else [v])) false [] t)
    else if c = 32 then go (h ++ (if v = [] then [] else [v])) w [] t
    else go h true (v ++ [c]) t
theorem hold_nil (v : List Nat) : (if v = [] then [] else [v]) = ([] : List (List Nat)) ↔ v = [] := by
  by_cases e : v = []
  · simp [e]
  · simp [e]
theorem go_rows : ∀ (t a : List Nat) (h f : List (List Nat)) (v : List Nat) (w : Bool), (∀ r, wcut [] (a ++ r) = f ++ wcut v r) → w = decide (f ≠ [] ∨ v ≠ []) →
    go (h ++ f) w v t = paras h (rows a t)
  | [], a, h, f, v, w, ha, hw => by
    have e := ha []
    rw [List.append_nil] at e
    have e2 : f ++ wcut v [] = f ++ (if v = [] then [] else [v]) := rfl
    rw [e2] at e
    show (if h ++ f ++ (if v = [] then [] else [v]) = [] then [] else [h ++ f ++ (if v = [] then [] else [v])]) = paras h [a]
    show _ = if wcut [] a = [] ∧ h ≠ [] then h :: paras [] [] else paras (h ++ wcut [] a) []
    rw [e, List.append_assoc]
    generalize f ++ (if v = [] then [] else [v]) = q
    by_cases c : q = [] ∧ h ≠ []
    · rw [if_pos c, c.1, List.append_nil, if_neg c.2]; rfl
    · rw [if_neg c]; rfl
  | c :: t, a, h, f, v, w, ha, hw => by
    simp only [go, rows]
    by_cases c1 : c = 10
    · rw [if_pos c1, if_pos c1]
      have e := ha []
      rw [List.append_nil] at e
      have e2 : f ++ wcut v [] = f ++ (if v = [] then [] else [v]) := rfl
      rw [e2] at e
      show _ = if wcut [] a = [] ∧ h ≠ [] then h :: paras [] (rows [] t) else paras (h ++ wcut [] a) (rows [] t)
      have i1 : go [] false [] t = paras [] (rows [] t) := go_rows t [] [] [] [] false (fun r => rfl) (by simp)
      by_cases c2 : f = [] ∧ v = []
      · obtain ⟨rfl, rfl⟩ := c2
        have e3 : wcut [] a = [] := e
        have hw' : w = false := by rw [hw]; simp
        rw [e3]
        by_cases c3 : h = []
        · subst c3
          simpa using i1
        · simp [c3, hw', i1]
      · have e3 : ¬ wcut [] a = [] := by
          rw [e]
          intro z
          obtain ⟨z1, z2⟩ := List.append_eq_nil_iff.mp z
          exact c2 ⟨z1, (hold_nil v).mp z2⟩
        have hw' : w = true := by
          rw [hw]
          refine decide_eq_true ?_
          by_cases c3 : f = []
          · exact .inr fun z => c2 ⟨c3, z⟩
          · exact .inl c3
        have n1 : ¬ (v = [] ∧ w = false ∧ h ++ f ≠ []) := fun z => by rw [hw'] at z; exact Bool.noConfusion z.2.1
        have n2 : ¬ (wcut [] a = [] ∧ h ≠ []) := fun z => e3 z.1
        rw [if_neg n1, if_neg n2]
        have i2 := go_rows t [] (h ++ wcut [] a) [] [] false (fun r => rfl) (by simp)
        rw [List.append_nil] at i2
        rw [← i2, e, List.append_assoc]
    · rw [if_neg c1, if_neg c1]
      by_cases c2 : c = 32
      · rw [if_pos c2, List.append_assoc]
        refine go_rows t (a ++ [c]) h _ [] w (fun r => ?_) ?_
        · rw [List.append_assoc]
          show wcut [] (a ++ c :: r) = _
          rw [ha]
          by_cases c3 : v = []
          · subst c3; rw [wcut_b (.inl c2)]; simp
          · rw [wcut_w c3 (.inl c2), if_neg c3]; simp
        · rw [hw]
          by_cases c3 : v = []
          · subst c3; simp
          · simp [c3]
      · rw [if_neg c2]
        refine go_rows t (a ++ [c]) h f (v ++ [c]) true (fun r => ?_) (by simp)
        rw [List.append_assoc]
        show wcut [] (a ++ c :: r) = _
        rw [ha, wcut_s (by omega)]
theorem go_parts (l : List Nat) : go [] false [] l = parts l := go_rows l [] [] [] [] false (fun r => rfl) (by simp)
/-- bounds of the parts -/
theorem paras_length : ∀ (rs : List (List Nat)) (h : List (List Nat)), (paras h rs).length ≤ rs.length + 1
  | [], h => by simp only [paras]; split <;> simp
  | r :: rs, h => by
    simp only [paras]
    have h1 := paras_length rs []
    have h2 := paras_length rs (h ++ wcut [] r)
    simp only [List.length_cons]
    split
    · simp only [List.length_cons]; omega
    · omega
theorem paras_all {Pw : List Nat → Prop} : ∀ (rs : List (List Nat)) (h : List (List Nat)), (∀ x ∈ h, Pw x) → (∀ r ∈ rs, ∀ x ∈ wcut [] r, Pw x) → ∀ p ∈ paras h rs, ∀ x ∈ p, Pw x
  | [], h, hh, hr, p, hp, x, hx => by
    simp only [paras] at hp
    split at hp
    · cases hp
    · rw [List.mem_singleton.mp hp] at hx; exact hh x hx
  | r :: rs, h, hh, hr, p, hp, x, hx => by
    simp only [paras] at hp
    split at hp
    · rcases List.mem_cons.mp hp with e | hp
      · rw [e] at hx; exact hh x hx
      · exact paras_all rs [] (fun _ z => by cases z) (fun q hq => hr q (List.mem_cons_of_mem _ hq)) p hp x hx
    · refine paras_all rs _ (fun y hy => ?_) (fun q hq => hr q (List.mem_cons_of_mem _ hq)) p hp x hx
      rcases List.mem_append.mp hy with z | z
      · exact hh y z
      · exact hr r List.mem_cons_self y z
theorem paras_ne : ∀ (rs : List (List Nat)) (h : List (List Nat)), [] ∉ paras h rs
  | [], h => by
    simp only [paras]
    split
    · simp
    · rename_i n; intro z; exact n (List.mem_singleton.mp z).symm
  | r :: rs, h => by
    simp only [paras]
    split
    · rename_i n
      intro z
      rcases List.mem_cons.mp z with e | z
      · exact n.2 e.symm
      · exact paras_ne rs [] z
    · exact paras_ne rs _
/-- how many words there are in all -/
def many (ps : List (List (List Nat))) : Nat := (ps.map List.length).sum
theorem paras_many : ∀ (rs : List (List Nat)) (h : List (List Nat)), many (paras h rs) ≤ h.length + (rs.map fun r => r.length + 1).sum
  | [], h => by
    simp only [paras]
    split <;> simp [many]
  | r :: rs, h => by
    simp only [paras]
    have h1 := paras_many rs []
    have h2 := paras_many rs (h ++ wcut [] r)
    have h3 := wcut_length r []
    simp only [List.map_cons, List.sum_cons, List.length_append, List.length_nil] at h1 h2 ⊢
    split
    · simp only [many, List.map_cons, List.sum_cons] at h1 ⊢; omega
    · omega
/-- lists of lists of texts, in the heap -/
def LL (H : Hp) (as : List Addr) (ps : List (List (List Nat))) : Prop :=
  as.length = ps.length ∧ ∀ (i : Nat) (a : Addr), as[i]? = some a → ∃ ws, ps[i]? = some ws ∧ H a = some (.lst (vts ws))
abbrev vas (as : List Addr) : List V := as.map V.ref
theorem LL.nil {H : Hp} : LL H [] [] := ⟨rfl, fun i a h => by simp at h⟩
theorem LL.same {H H' : Hp} {as : List Addr} {ps : List (List (List Nat))} (h : LL H as ps) (s : Same H H') : LL H' as ps :=
  ⟨h.1, fun i a e => let ⟨ws, e1, e2⟩ := h.2 i a e; ⟨ws, e1, s _ _ e2⟩⟩
theorem LL.keep {H H' : Hp} {as : List Addr} {ps : List (List (List Nat))} (h : LL H as ps) (s : ∀ a ∈ as, ∀ o, H a = some o → H' a = some o) : LL H' as ps :=
  ⟨h.1, fun i a e => let ⟨ws, e1, e2⟩ := h.2 i a e; ⟨ws, e1, s a (List.mem_of_getElem? e) _ e2⟩⟩
theorem LL.snoc {H : Hp} {as : List Addr} {ps : List (List (List Nat))} {a : Addr} {ws : List (List Nat)} (h : LL H as ps) (e : H a = some (.lst (vts ws))) : LL H (as ++ [a]) (ps ++ [ws]) := by
  refine ⟨by simp [h.1], fun i b hb => ?_⟩
  by_cases hi : i < as.length
  · rw [List.getElem?_append_left hi] at hb
    obtain ⟨w2, e1, e2⟩ := h.2 i b hb
    exact ⟨w2, by rw [List.getElem?_append_left (by rw [← h.1]; exact hi)]; exact e1, e2⟩
  · rw [List.getElem?_append_right (by omega)] at hb
    have hi0 : i - as.length = 0 := by
      have := (List.getElem?_eq_some_iff.mp hb).1
      simp at this; omega
    rw [hi0] at hb
    have eb : a = b := by simpa using hb
    subst eb
    refine ⟨ws, ?_, e⟩
    rw [List.getElem?_append_right (by rw [← h.1]; omega), ← h.1, hi0]; rfl
theorem LL.get {H : Hp} {as : List Addr} {ps : List (List (List Nat))} (h : LL H as ps) {i : Nat} {ws : List (List Nat)} (e : ps[i]? = some ws) : ∃ a, as[i]? = some a ∧ H a = some (.lst (vts ws)) := by
  have hi : i < as.length := by rw [h.1]; exact (List.getElem?_eq_some_iff.mp e).1
  obtain ⟨w2, e1, e2⟩ := h.2 i as[i] (List.getElem?_eq_getElem hi)
  rw [e] at e1
  cases e1
  exact ⟨_, List.getElem?_eq_getElem hi, e2⟩
theorem LL.lt {H : Hp} {as : List Addr} {ps : List (List (List Nat))} (h : LL H as ps) {p : Addr} (n : H p = none) : p ∉ as := fun hp => by
  obtain ⟨i, hi, e⟩ := List.mem_iff_getElem.mp hp
  obtain ⟨ws, _, e2⟩ := h.2 i p (by rw [← e]; exact List.getElem?_eq_getElem hi)
  rw [n] at e2; cases e2
end Tw
namespace Tw
open PySem PySem.Spec PyProof.Rows L2
theorem go_nl : ∀ (t : List Nat) (h : List (List Nat)) (w : Bool) (v : List Nat), go h w v (t ++ [10]) = go h w v t
  | [], h, w, v => by
    show (if (10 : Nat) = 10 then (if v = [] ∧ w = false ∧ h ≠ [] then h :: go [] false [] [] else go (h ++ (if v = [] then [] else [v])) false [] []) else _) = go h w v []
    rw [if_pos rfl]
    by_cases e : v = [] ∧ w = false ∧ h ≠ []
    · rw [if_pos e]
      obtain ⟨rfl, _, e3⟩ := e
      simp [e3, go]
    · rw [if_neg e]
      simp [go]
  | c :: t, h, w, v => by
    simp only [List.cons_append, go]
    rw [go_nl t, go_nl t, go_nl t, go_nl t]
theorem lit_row : PySem.Str.ofString "row" = tx [114, 111, 119] := by decide +kernel
theorem lit_word : PySem.Str.ofString "word" = tx [119, 111, 114, 100] := by decide +kernel
def cnt (rs : List (List Nat)) : Nat := (rs.map fun r => r.length + 1).sum
theorem cnt_app (a b : List (List Nat)) : cnt (a ++ b) = cnt a + cnt b := by simp [cnt]
theorem cnt_total : ∀ rs : List (List Nat), cnt rs = total rs + rs.length
  | [] => rfl
  | r :: rs => by
    have h := cnt_total rs
    simp only [cnt, total, List.map_cons, List.sum_cons, List.length_cons] at h ⊢
    omega
theorem vas_app (as : List Addr) (a : Addr) : vas (as ++ [a]) = vas as ++ [.ref a] := List.map_append
theorem vts_app2 (a b : List (List Nat)) : vts (a ++ b) = vts a ++ vts b := List.map_append
theorem parts_length (l : List Nat) : (parts l).length ≤ l.length + 2 := by
  have h1 := paras_length (rows [] l) []
  have h2 := rows_length l []
  unfold parts
  omega
theorem wcut_nil_iff {r : List Nat} : decide (vts (wcut [] r) = ([] : List V)) = decide (wcut [] r = []) := by
  by_cases e : wcut [] r = []
  · rw [e]; rfl
  · rw [decide_eq_false e, decide_eq_false (fun z => e (List.map_eq_nil_iff.mp z))]
theorem nil_iff {h : List (List Nat)} : decide (vts h = ([] : List V)) = decide (h = []) := by
  by_cases e : h = []
  · rw [e]; rfl
  · rw [decide_eq_false e, decide_eq_false (fun z => e (List.map_eq_nil_iff.mp z))]
end Tw
namespace Tw
open PySem PySem.Spec PyProof.Rows L2
theorem plain_words {l r : List Nat} (h : plainTx l) (hr : r ∈ rows [] l) : ∀ x ∈ wcut [] r, plainTx x := fun x hx c hc => by
  rcases wcut_mem r [] hx hc with z | z
  · cases z
  · rcases rows_mem l [] hr z.1 with y | y
    · cases y
    · exact h c y.1
theorem parts_plain {l : List Nat} (h : plainTx l) : ∀ p ∈ parts l, ∀ x ∈ p, plainTx x :=
  paras_all (Pw := plainTx) (rows [] l) [] (fun _ z => nomatch z) fun _ hr x hx => plain_words h hr x hx
end Tw
namespace Tw
open PySem PySem.Spec PyProof.Rows L2
theorem eq_vt {a b : List Nat} {x : Str} (e : x = tx b) : decide (vt a = V.str x) = decide (a = b) := by
  rw [e, dec_vt]
theorem eq_sg {a b : Nat} {x : Str} (e : x = tx [b]) : decide (vt [a] = V.str x) = decide (a = b) := by
  rw [eq_vt e]
  simp
def wd (w : Bool) : List Nat := if w = true then [119, 111, 114, 100] else []
def rd (r : Bool) : List Nat := if r = true then [114, 111, 119] else []
theorem ne_rd {r : Bool} : (!decide (vt (rd r) = V.str (PySem.Str.ofString "row"))) = !decide (r = true) := by
  rw [ne_vt lit_row]
  cases r <;> decide
theorem ne_wd {w : Bool} : (!decide (vt (wd w) = V.str (PySem.Str.ofString "word"))) = !decide (w = true) := by
  rw [ne_vt lit_word]
  cases w <;> decide
theorem LL.last {H : Hp} {as : List Addr} {C : List (List (List Nat))} {h h2 : List (List Nat)} (L : LL H as (C ++ [h])) (nd : as.Nodup) :
    ∃ as0 a, as = as0 ++ [a] ∧ H a = some (.lst (vts h)) ∧ LL (upd H a (.lst (vts h2))) as (C ++ [h2]) := by
  have hl : as.length = C.length + 1 := by rw [L.1]; simp
  have hlt : C.length < as.length := by omega
  obtain ⟨ws, e1, e2⟩ := L.2 C.length as[C.length] (List.getElem?_eq_getElem hlt)
  have e3 : (C ++ [h])[C.length]? = some h := by simp
  rw [e3] at e1
  cases e1
  have ea : as = as.take C.length ++ [as[C.length]] := by
    have := List.take_append_drop C.length as
    rw [List.drop_eq_getElem_cons hlt, List.drop_of_length_le (by omega)] at this
    exact this.symm
  refine ⟨as.take C.length, as[C.length], ea, e2, by rw [L.1]; simp, fun i a ha => ?_⟩
  by_cases hi : i = C.length
  · subst hi
    rw [List.getElem?_eq_getElem hlt] at ha
    cases ha
    exact ⟨h2, by simp, upd_same⟩
  · obtain ⟨ws, f1, f2⟩ := L.2 i a ha
    have hi2 : i < as.length := (List.getElem?_eq_some_iff.mp ha).1
    have ne : a ≠ as[C.length] := fun z => by
      have h1 : as[i] = as[C.length] := by
        have := (List.getElem?_eq_some_iff.mp ha).2
        rw [this, z]
      exact hi ((List.getElem_inj nd).mp h1)
    refine ⟨ws, ?_, by rw [upd_ne ne]; exact f2⟩
    rw [List.getElem?_append_left (by omega)] at f1 ⊢
    exact f1
structure PH (H H' : Hp) (o la : Addr) (as : List Addr) (C : List (List (List Nat))) (h : List (List Nat)) (held : List Nat) (w : Bool) : Prop where
  sm : Same H H'
  eo : H' o = some (.lst (vas as))
  ll : LL H' as (if h ≠ [] ∨ held ≠ [] then C ++ [h] else C)
  el : H' la = some (.lst [vt (wd w), vt (rd (decide (h ≠ [] ∨ held ≠ [])))])
  ha : ∀ a ∈ as, H a = none ∧ a ≠ o ∧ a ≠ la
  nd : as.Nodup
  hw : held ≠ [] → w = true
theorem two_ne {c : Nat} : ((!decide (vt [c] = V.str (PySem.Str.ofString " "))) && (!decide (vt [c] = V.str (PySem.Str.ofString "\n")))) = !decide (c = 32 ∨ c = 10) := by
  rw [ne_sg lit_sp, ne_sg lit_nl]
  by_cases h1 : c = 32 <;> by_cases h2 : c = 10 <;> simp [h1, h2]
end Tw
namespace Tw
open PySem PySem.Spec PyProof.Rows L2
/-! ### whole texts -/
theorem Tab.one {ws : List (List Nat)} {wd : Int} {T T' : Nat → Int} (h : Tab ws wd T) (h' : Tab ws wd T') : ∀ a, a ≤ ws.length → T a = T' a := by
  have key : ∀ k a, a ≤ ws.length → ws.length - a = k → T a = T' a := by
    intro k
    induction k using Nat.strongRecOn with
    | ind k ih =>
      intro a ha hk
      rcases Nat.lt_or_eq_of_le ha with l | l
      · obtain ⟨e, hb, he⟩ := h.2 a l
        obtain ⟨e', hb', he'⟩ := h'.2 a l
        have i1 : T e = T' e := ih (ws.length - e) (by have := hb.1; have := hb.2.1; omega) e hb.2.1 rfl
        have i2 : T e' = T' e' := ih (ws.length - e') (by have := hb'.1; have := hb'.2.1; omega) e' hb'.2.1 rfl
        have h1 := (hb.2.2.2 e' hb'.1 hb'.2.1 hb'.2.2.1).1
        have h2 := (hb'.2.2.2 e hb.1 hb.2.1 hb.2.2.1).1
        omega
      · subst l
        rw [h.1, h'.1]
  exact fun a ha => key _ a ha rfl
theorem Bc.like {ws : List (List Nat)} {wd : Int} {T T' : Nat → Int} (ht : ∀ a, a ≤ ws.length → T a = T' a) : ∀ {ks : List Nat} {a : Nat}, Bc ws wd T a ks → Bc ws wd T' a ks
  | [], _, h => h
  | _ :: _, _, h => by
    obtain ⟨h1, e, hb, h5⟩ := h
    refine ⟨h1, e, ⟨hb.1, hb.2.1, hb.2.2.1, fun e' g1 g2 g3 => ?_⟩, Bc.like ht h5⟩
    rw [← ht e hb.2.1, ← ht e' g2]
    exact hb.2.2.2 e' g1 g2 g3
/-- the best starts of words -/
def Bst (n : Int) (p : List (List Nat)) (ks : List Nat) : Prop := ∃ T, Tab p n T ∧ Bc p n T 0 ks
theorem Bst.only {n : Int} {p : List (List Nat)} {ks ks' : List Nat} (h : Bst n p ks) (h' : Bst n p ks') : ks = ks' := by
  obtain ⟨T, t, b⟩ := h
  obtain ⟨T', t', b'⟩ := h'
  exact (b.like (Tab.one t t')).only b'
theorem Bst.fc {n : Int} {p : List (List Nat)} {ks : List Nat} (h : Bst n p ks) : Fc p n 0 ks := by
  obtain ⟨T, t, b⟩ := h; exact b.fc
/-- block by block -/
def Bs (R : List (List Nat) → List Nat → Prop) : List (List (List Nat)) → List (List Nat) → Prop
  | [], [] => True
  | p :: ps, b :: bs => R p b ∧ Bs R ps bs
  | _, _ => False
theorem Bs.snoc {R : List (List Nat) → List Nat → Prop} : ∀ {ps : List (List (List Nat))} {bs : List (List Nat)} {p : List (List Nat)} {b : List Nat}, Bs R ps bs → R p b → Bs R (ps ++ [p]) (bs ++ [b])
  | [], [], _, _, _, h => ⟨h, trivial⟩
  | _ :: _, _ :: _, _, _, h, g => ⟨h.1, Bs.snoc h.2 g⟩
  | [], _ :: _, _, _, h, _ => h.elim
  | _ :: _, [], _, _, h, _ => h.elim
theorem Bs.only {R : List (List Nat) → List Nat → Prop} (o : ∀ p b b', R p b → R p b' → b = b') : ∀ {ps : List (List (List Nat))} {bs bs' : List (List Nat)}, Bs R ps bs → Bs R ps bs' → bs = bs'
  | [], [], [], _, _ => rfl
  | p :: ps, b :: bs, b' :: bs', h, h' => by rw [o _ _ _ h.1 h'.1, Bs.only o h.2 h'.2]
  | [], _ :: _, _, h, _ => h.elim
  | [], _, _ :: _, _, h => h.elim
  | _ :: _, [], _, h, _ => h.elim
  | _ :: _, _, [], _, h => h.elim
theorem Bs.len {R : List (List Nat) → List Nat → Prop} : ∀ {ps : List (List (List Nat))} {bs : List (List Nat)}, Bs R ps bs → bs.length = ps.length
  | [], [], _ => rfl
  | _ :: _, _ :: _, h => by rw [List.length_cons, List.length_cons, Bs.len h.2]
  | [], _ :: _, h => h.elim
  | _ :: _, [], h => h.elim
def ptot (ps : List (List (List Nat))) : Nat := (ps.map total).sum
theorem Bs.tot {R : List (List Nat) → List Nat → Prop} : ∀ {ps : List (List (List Nat))} {bs : List (List Nat)}, (∀ p ∈ ps, ∀ b, R p b → b.length ≤ total p + p.length) → Bs R ps bs → total bs ≤ ptot ps + many ps
  | [], [], _, _ => by simp [total]
  | p :: ps, b :: bs, o, h => by
    have h1 := o p (List.mem_cons_self ..) b h.1
    have h2 := Bs.tot (ps := ps) (bs := bs) (fun p hp => o p (List.mem_cons_of_mem _ hp)) h.2
    have e1 : total (b :: bs) = b.length + total bs := rfl
    have e2 : ptot (p :: ps) = total p + ptot ps := rfl
    have e3 : many (p :: ps) = p.length + many ps := rfl
    omega
  | [], _ :: _, _, h => h.elim
  | _ :: _, [], _, h => h.elim
theorem ptot_app (a b : List (List (List Nat))) : ptot (a ++ b) = ptot a + ptot b := by simp [ptot]
theorem many_app (a b : List (List (List Nat))) : many (a ++ b) = many a + many b := by simp [many]
theorem paras_tot : ∀ (rs : List (List Nat)) (h : List (List Nat)), ptot (paras h rs) ≤ total h + total rs
  | [], h => by
    simp only [paras]
    split
    · exact Nat.zero_le _
    · simp [ptot]
  | r :: rs, h => by
    simp only [paras]
    have e1 : total (r :: rs) = r.length + total rs := rfl
    split
    · have := paras_tot rs []
      have e2 : ptot (h :: paras [] rs) = total h + ptot (paras [] rs) := rfl
      have e3 : total ([] : List (List Nat)) = 0 := rfl
      omega
    · have := paras_tot rs (h ++ wcut [] r)
      have h2 := wcut_total r []
      rw [total_app] at this
      simp only [List.length_nil] at h2
      omega
theorem parts_tot (l : List Nat) : ptot (parts l) ≤ l.length := by
  have h1 := paras_tot (rows [] l) []
  have h2 := rows_total l []
  have e3 : total ([] : List (List Nat)) = 0 := rfl
  simp only [List.length_nil] at h2
  unfold parts; omega
theorem parts_many (l : List Nat) : many (parts l) ≤ 2 * l.length + 1 := by
  have h1 := paras_many (rows [] l) []
  have h2 := rows_total l []
  have h3 := rows_length l []
  have h4 := cnt_total (rows [] l)
  simp only [List.length_nil] at h1 h2
  unfold cnt at h4
  unfold parts; omega
theorem many_mem {ps : List (List (List Nat))} {p : List (List Nat)} (h : p ∈ ps) : p.length ≤ many ps := by
  induction ps with
  | nil => cases h
  | cons q r ih =>
    have e3 : many (q :: r) = q.length + many r := rfl
    rcases List.mem_cons.mp h with z | z
    · subst z; omega
    · have := ih z; omega
theorem ptot_mem {ps : List (List (List Nat))} {p : List (List Nat)} (h : p ∈ ps) : total p ≤ ptot ps := by
  induction ps with
  | nil => cases h
  | cons q r ih =>
    have e3 : ptot (q :: r) = total q + ptot r := rfl
    rcases List.mem_cons.mp h with z | z
    · subst z; omega
    · have := ih z; omega
theorem parts_bw {l : List Nat} (hl : l.length ≤ 49000) (hp : plainTx l) : ∀ p ∈ parts l, Bw p := fun p h => by
  have h1 := many_mem h
  have h2 := ptot_mem h
  have h3 := parts_many l
  have h4 := parts_tot l
  exact ⟨by omega, by omega, parts_plain hp p h⟩
/-- a clean word -/
def Cw (x : List Nat) : Prop := x ≠ [] ∧ 32 ∉ x ∧ 10 ∉ x
theorem parts_clean (l : List Nat) : ∀ p ∈ parts l, ∀ x ∈ p, Cw x := paras_all (rows [] l) [] (fun _ z => nomatch z) fun r hr x hx => by
  refine ⟨fun e => wcut_ne r [] (e ▸ hx), fun z => ?_, fun z => ?_⟩
  · rcases wcut_mem r [] hx z with y | y
    · cases y
    · exact y.2.1 rfl
  · rcases wcut_mem r [] hx z with y | y
    · cases y
    · exact y.2.2 rfl
theorem wcut_word : ∀ (x h r : List Nat), 32 ∉ x → 10 ∉ x → wcut h (x ++ r) = wcut (h ++ x) r
  | [], h, r, _, _ => by simp
  | c :: x, h, r, h1, h2 => by
    have hc : ¬ (c = 32 ∨ c = 10) := fun z => by
      rcases z with z | z
      · subst z; exact h1 (List.mem_cons_self ..)
      · subst z; exact h2 (List.mem_cons_self ..)
    rw [List.cons_append, wcut_s hc, wcut_word x (h ++ [c]) r (fun z => h1 (List.mem_cons_of_mem _ z)) (fun z => h2 (List.mem_cons_of_mem _ z))]
    simp
theorem wcut_line : ∀ ws : List (List Nat), (∀ x ∈ ws, Cw x) → wcut [] (jn [32] ws) = ws
  | [], _ => rfl
  | [x], h => by
    have c := h x (List.mem_cons_self ..)
    have := wcut_word x [] [] c.2.1 c.2.2
    rw [List.append_nil] at this
    show wcut [] x = [x]
    rw [this, List.nil_append, wcut_e c.1]
  | x :: y :: r, h => by
    have c := h x (List.mem_cons_self ..)
    show wcut [] (x ++ ([32] ++ jn [32] (y :: r))) = x :: y :: r
    rw [wcut_word x [] _ c.2.1 c.2.2, List.nil_append]
    show wcut x (32 :: jn [32] (y :: r)) = _
    rw [wcut_w c.1 (.inl rfl), wcut_line (y :: r) fun z hz => h z (List.mem_cons_of_mem _ hz)]
theorem rows_word : ∀ (x h r : List Nat), 10 ∉ x → rows h (x ++ 10 :: r) = (h ++ x) :: rows [] r
  | [], h, r, _ => by simp [rows]
  | c :: x, h, r, h1 => by
    rw [List.cons_append]
    simp only [rows]
    rw [if_neg (fun z => h1 (by rw [z]; exact List.mem_cons_self ..)), rows_word x (h ++ [c]) r (fun z => h1 (List.mem_cons_of_mem _ z))]
    simp
theorem rows_last : ∀ (x h : List Nat), 10 ∉ x → rows h x = [h ++ x]
  | [], h, _ => by simp [rows]
  | c :: x, h, h1 => by
    simp only [rows]
    rw [if_neg (fun z => h1 (by rw [z]; exact List.mem_cons_self ..)), rows_last x (h ++ [c]) (fun z => h1 (List.mem_cons_of_mem _ z))]
    simp
theorem rows_block : ∀ (ls : List (List Nat)) (r : List Nat), ls ≠ [] → (∀ x ∈ ls, 10 ∉ x) → rows [] (jn [10] ls ++ 10 :: r) = ls ++ rows [] r
  | [], _, h, _ => absurd rfl h
  | [x], r, _, h => by
    show rows [] (x ++ 10 :: r) = _
    rw [rows_word x [] r (h x (List.mem_cons_self ..))]; rfl
  | x :: y :: t, r, _, h => by
    show rows [] ((x ++ ([10] ++ jn [10] (y :: t))) ++ 10 :: r) = _
    rw [List.append_assoc, List.append_assoc]
    show rows [] (x ++ 10 :: (jn [10] (y :: t) ++ 10 :: r)) = _
    rw [rows_word x [] _ (h x (List.mem_cons_self ..)), rows_block (y :: t) r (by simp) fun z hz => h z (List.mem_cons_of_mem _ hz)]; rfl
theorem rows_end : ∀ (ls : List (List Nat)), ls ≠ [] → (∀ x ∈ ls, 10 ∉ x) → rows [] (jn [10] ls) = ls
  | [], h, _ => absurd rfl h
  | [x], _, h => by
    show rows [] x = _
    rw [rows_last x [] (h x (List.mem_cons_self ..))]; rfl
  | x :: y :: t, _, h => by
    show rows [] (x ++ 10 :: jn [10] (y :: t)) = _
    rw [rows_word x [] _ (h x (List.mem_cons_self ..)), rows_end (y :: t) (by simp) fun z hz => h z (List.mem_cons_of_mem _ hz)]; rfl
theorem paras_lines : ∀ (ls : List (List Nat)) (h rs : List (List Nat)), (∀ x ∈ ls, wcut [] x ≠ []) → paras h (ls ++ rs) = paras (h ++ (ls.map (wcut [])).flatten) rs
  | [], h, rs, _ => by simp
  | x :: t, h, rs, k => by
    rw [List.cons_append]
    simp only [paras]
    rw [if_neg (fun z => k x (List.mem_cons_self ..) z.1), paras_lines t _ rs fun z hz => k z (List.mem_cons_of_mem _ hz)]
    simp
/-- lines of a paragraph -/
def Lp (p : List (List Nat)) (b : List Nat) : Prop := ∃ ls, b = jn [10] ls ∧ ls ≠ [] ∧ (∀ x ∈ ls, 10 ∉ x ∧ wcut [] x ≠ []) ∧ (ls.map (wcut [])).flatten = p
theorem paras_lp {p : List (List Nat)} {b : List Nat} (h : Lp p b) (hp : p ≠ []) : parts b = [p] ∧ ∀ r, parts (b ++ 10 :: 10 :: r) = p :: parts r := by
  obtain ⟨ls, rfl, h1, h2, h3⟩ := h
  unfold parts
  constructor
  · rw [rows_end ls h1 fun x hx => (h2 x hx).1]
    have := paras_lines ls [] [] fun x hx => (h2 x hx).2
    rw [List.append_nil, List.nil_append, h3] at this
    rw [this]
    simp [paras, hp]
  · intro r
    rw [rows_block ls (10 :: r) h1 fun x hx => (h2 x hx).1, paras_lines ls [] _ fun x hx => (h2 x hx).2, List.nil_append, h3]
    show paras p ([] :: rows [] r) = _
    simp only [paras]
    rw [if_pos ⟨rfl, hp⟩]
theorem parts_blocks : ∀ {ps : List (List (List Nat))} {bs : List (List Nat)}, Bs Lp ps bs → (∀ p ∈ ps, p ≠ []) → parts (jn [10, 10] bs) = ps
  | [], [], _, _ => rfl
  | [p], [b], h, hp => (paras_lp h.1 (hp p (List.mem_cons_self ..))).1
  | p :: q :: ps, b :: c :: bs, h, hp => by
    show parts (b ++ ([10, 10] ++ jn [10, 10] (c :: bs))) = _
    rw [show b ++ ([10, 10] ++ jn [10, 10] (c :: bs)) = b ++ 10 :: 10 :: jn [10, 10] (c :: bs) from rfl, (paras_lp h.1 (hp p (List.mem_cons_self ..))).2,
      parts_blocks h.2 fun z hz => hp z (List.mem_cons_of_mem _ hz)]
  | [], _ :: _, h, _ => h.elim
  | _ :: _, [], h, _ => h.elim
  | [_], _ :: _ :: _, h, _ => h.2.elim
  | _ :: _ :: _, [_], h, _ => h.2.elim
theorem jn_mem2 {y : List Nat} {c : Nat} : ∀ {ws : List (List Nat)}, c ∈ jn y ws → c ∈ y ∨ ∃ x ∈ ws, c ∈ x
  | [], h => nomatch h
  | [x], h => .inr ⟨x, List.mem_cons_self .., h⟩
  | x :: z :: r, h => by
    rcases List.mem_append.mp h with h | h
    · exact .inr ⟨x, List.mem_cons_self .., h⟩
    · rcases List.mem_append.mp h with h | h
      · exact .inl h
      · rcases jn_mem2 h with k | ⟨w, k1, k2⟩
        · exact .inl k
        · exact .inr ⟨w, List.mem_cons_of_mem _ k1, k2⟩
theorem jn_one (y : Nat) : ∀ ws : List (List Nat), (jn [y] ws).length = lsz ws
  | [] => rfl
  | [p] => by simp [jn, lsz, total]
  | p :: q :: r => by
    have h := jn_one y (q :: r)
    show (p ++ ([y] ++ jn [y] (q :: r))).length = _
    rw [List.length_append, List.length_append, h]
    have e1 : total (p :: q :: r) = p.length + total (q :: r) := rfl
    unfold lsz
    rw [e1]
    simp only [List.length_cons, List.length_nil]
    omega
theorem lns_step {ws : List (List Nat)} {a e : Nat} {r : List Nat} (h : Ch ws.length e r) : lns ws (a :: r) = jn [32] (seg ws a e) :: lns ws r := by
  cases r with
  | nil =>
    have : e = ws.length := h
    subst this
    unfold lns; rw [pairs_one]; rfl
  | cons c t =>
    have : c = e := h.1
    subst this
    unfold lns; rw [pairs_cons]; rfl
theorem drop_seg (ws : List (List Nat)) {a e : Nat} (h : a ≤ e) : ws.drop a = seg ws a e ++ ws.drop e := by
  unfold seg
  have := (List.take_append_drop (e - a) (ws.drop a)).symm
  rw [List.drop_drop] at this
  rw [show a + (e - a) = e by omega] at this
  exact this
theorem lns_words {ws : List (List Nat)} (hc : ∀ x ∈ ws, Cw x) : ∀ {ks : List Nat} {a : Nat}, Ch ws.length a ks → ((lns ws ks).map (wcut [])).flatten = ws.drop a ∧ ∀ x ∈ lns ws ks, 10 ∉ x ∧ wcut [] x ≠ []
  | [], a, h => by
    have : a = ws.length := h
    subst this
    refine ⟨by rw [List.drop_length]; rfl, fun x hx => nomatch hx⟩
  | b :: r, a, h => by
    obtain ⟨rfl, e, h1, h2, h3⟩ := h
    have hs : ∀ x ∈ seg ws b e, Cw x := fun x hx => hc x (seg_mem hx)
    rw [lns_step h3]
    obtain ⟨i1, i2⟩ := lns_words hc h3
    refine ⟨?_, fun x hx => ?_⟩
    · rw [List.map_cons, List.flatten_cons, i1, wcut_line _ hs, drop_seg ws (Nat.le_of_lt h1)]
    · rcases List.mem_cons.mp hx with z | z
      · subst z
        refine ⟨fun hm => ?_, ?_⟩
        · rcases jn_mem2 hm with k | ⟨w, k1, k2⟩
          · simp at k
          · exact (hs w k1).2.2 k2
        · rw [wcut_line _ hs]
          intro z
          have := seg_length ws (a := b) h2
          rw [z] at this
          simp at this; omega
      · exact i2 x z
theorem lns_tot {ws : List (List Nat)} : ∀ {ks : List Nat} {a : Nat}, Ch ws.length a ks → total (lns ws ks) + ks.length + total (ws.take a) + a = total ws + ws.length
  | [], a, h => by
    have : a = ws.length := h
    subst this
    rw [List.take_length]; simp [lns, pairs, total]
  | b :: r, a, h => by
    obtain ⟨rfl, e, h1, h2, h3⟩ := h
    have i := lns_tot h3
    rw [lns_step h3]
    have e1 : total (jn [32] (seg ws b e) :: lns ws r) = (jn [32] (seg ws b e)).length + total (lns ws r) := rfl
    have e2 := size_P ws h1 h2
    unfold size at e2
    rw [e1, jn_sp, List.length_cons]
    omega
/-- a paragraph wrapped -/
def Blk (n : Int) (p : List (List Nat)) (b : List Nat) : Prop := ∃ ks, Bst n p ks ∧ b = jn [10] (lns p ks)
theorem Blk.only {n : Int} (p : List (List Nat)) (b b' : List Nat) (h : Blk n p b) (h' : Blk n p b') : b = b' := by
  obtain ⟨ks, h1, rfl⟩ := h
  obtain ⟨ks', h2, rfl⟩ := h'
  rw [h1.only h2]
theorem Blk.len {n : Int} {p : List (List Nat)} {b : List Nat} (h : Blk n p b) : b.length ≤ total p + p.length := by
  obtain ⟨ks, h1, rfl⟩ := h
  have := lns_tot h1.fc.ch
  rw [jn_one]
  unfold lsz
  rw [lns_length]
  have e : total (p.take 0) = 0 := rfl
  omega
theorem Blk.lp {n : Int} {p : List (List Nat)} {b : List Nat} (h : Blk n p b) (hp : p ≠ []) (hc : ∀ x ∈ p, Cw x) : Lp p b := by
  obtain ⟨ks, h1, rfl⟩ := h
  have := lns_words hc h1.fc.ch
  refine ⟨lns p ks, rfl, fun z => ?_, this.2, this.1⟩
  have h3 := this.1
  rw [z] at h3
  exact hp h3.symm
theorem Bs.imp {R S : List (List Nat) → List Nat → Prop} : ∀ {ps : List (List (List Nat))} {bs : List (List Nat)}, (∀ p ∈ ps, ∀ b, R p b → S p b) → Bs R ps bs → Bs S ps bs
  | [], [], _, _ => trivial
  | p :: ps, b :: bs, o, h => ⟨o p (List.mem_cons_self ..) b h.1, Bs.imp (fun p hp => o p (List.mem_cons_of_mem _ hp)) h.2⟩
  | [], _ :: _, _, h => h.elim
  | _ :: _, [], _, h => h.elim
theorem Bs.mem {R : List (List Nat) → List Nat → Prop} : ∀ {ps : List (List (List Nat))} {bs : List (List Nat)} {b : List Nat}, Bs R ps bs → b ∈ bs → ∃ p ∈ ps, R p b
  | [], [], _, _, h => nomatch h
  | p :: ps, c :: bs, b, h, hb => by
    rcases List.mem_cons.mp hb with z | z
    · subst z; exact ⟨p, List.mem_cons_self .., h.1⟩
    · obtain ⟨q, q1, q2⟩ := Bs.mem h.2 z
      exact ⟨q, List.mem_cons_of_mem _ q1, q2⟩
  | [], _ :: _, _, h, _ => h.elim
  | _ :: _, [], _, h, _ => h.elim
theorem Blk.plain {n : Int} {p : List (List Nat)} {b : List Nat} (h : Blk n p b) (hp : ∀ x ∈ p, plainTx x) : plainTx b := by
  obtain ⟨ks, h1, rfl⟩ := h
  intro c hc
  rcases jn_mem2 hc with k | ⟨w, k1, k2⟩
  · rw [List.mem_singleton.mp k]; decide
  · unfold lns at k1
    obtain ⟨q, q1, rfl⟩ := List.mem_map.mp k1
    rcases jn_mem2 k2 with k | ⟨w, k1, k2⟩
    · rw [List.mem_singleton.mp k]; decide
    · exact hp w (seg_mem k1) c k2
/-- the longest word of all -/
def lgp (ps : List (List (List Nat))) : Nat := mx (ps.map longest)
theorem lgp_app (ps : List (List (List Nat))) (p : List (List Nat)) : lgp (ps ++ [p]) = max (lgp ps) (longest p) := by unfold lgp; rw [List.map_append, List.map_singleton, mx_app]
theorem lgp_ge {ps : List (List (List Nat))} {p : List (List Nat)} (h : p ∈ ps) : longest p ≤ lgp ps := mx_ge (List.mem_map.mpr ⟨p, h, rfl⟩)
/-- wrapped again it stays -/
theorem again {l : List Nat} {n : Int} {bs : List (List Nat)} (h : Bs (Blk n) (parts l) bs) : parts (jn [10, 10] bs) = parts l := by
  have hne : ∀ p ∈ parts l, p ≠ [] := fun p hp e => by subst e; exact paras_ne (rows [] l) [] hp
  exact parts_blocks (h.imp fun p hp b hb => hb.lp (hne p hp) (parts_clean l p hp)) hne
theorem text_len {R : List (List Nat) → List Nat → Prop} {l : List Nat} {bs : List (List Nat)} (o : ∀ p ∈ parts l, ∀ b, R p b → b.length ≤ total p + p.length) (h : Bs R (parts l) bs) : total bs + bs.length * 2 ≤ 5 * l.length + 5 := by
  have h1 := h.tot o
  have h2 := parts_tot l
  have h3 := parts_many l
  have h4 := parts_length l
  have h5 := h.len
  omega
end Tw
namespace Tw
open PySem PySem.Spec PyProof.Rows L2
/-! ### a line spread -/
def gap (more p k : Nat) : Nat := 1 + more / p + (if k < more % p then 1 else 0)
def sprTail (more p : Nat) : Nat → List (List Nat) → List Nat
  | _, [] => []
  | k, x :: r => List.replicate (gap more p k) 32 ++ x ++ sprTail more p (k + 1) r
/-- the words of a line with blanks between, till it is as wide as told -/
def spr (ws : List (List Nat)) (wd : Nat) : List Nat := match ws with
  | [] => []
  | x :: r => x ++ sprTail (wd - size ws 0 ws.length) r.length 0 r
theorem seg_all (ws : List (List Nat)) : seg ws 0 ws.length = ws := by unfold seg; simp
theorem size_all (ws : List (List Nat)) : size ws 0 ws.length = lsz ws := by unfold size; rw [seg_all]
theorem spr_short {ws : List (List Nat)} (h : ws.length < 2) (wd : Nat) : spr ws wd = jn [32] ws := by
  match ws, h with
  | [], _ => rfl
  | [x], _ => simp [spr, sprTail, jn]
theorem gap_law {more p k : Nat} (hk : k < p) : (((more + p : Nat) : Int) - (k : Int) + ((p + 1 : Nat) : Int) - 2) / (((p + 1 : Nat) : Int) - 1) = (gap more p k : Nat) := by
  have hp : 0 < p := by omega
  have e1 := Nat.div_add_mod more p
  have e2 := Nat.mod_lt more hp
  have e3 : (((more + p : Nat) : Int) - (k : Int) + ((p + 1 : Nat) : Int) - 2) = ((more + 2 * p - 1 - k : Nat) : Int) := by omega
  have e4 : (((p + 1 : Nat) : Int) - 1) = (p : Int) := by omega
  rw [e3, e4, ← Int.natCast_ediv]
  congr 1
  unfold gap
  generalize more / p = q at *
  generalize more % p = r at *
  have e5 : p * q = q * p := Nat.mul_comm _ _
  by_cases c : k < r
  · rw [if_pos c]
    have : more + 2 * p - 1 - k = (r - 1 - k) + (q + 2) * p := by rw [Nat.add_mul]; omega
    rw [this, Nat.add_mul_div_right _ _ hp, Nat.div_eq_of_lt (by omega)]
    omega
  · rw [if_neg c]
    have : more + 2 * p - 1 - k = (r + p - 1 - k) + (q + 1) * p := by rw [Nat.add_mul]; omega
    rw [this, Nat.add_mul_div_right _ _ hp, Nat.div_eq_of_lt (by omega)]
    omega
theorem gap_le {more p k : Nat} : gap more p k ≤ more + 2 := by
  unfold gap
  have : more / p ≤ more := Nat.div_le_self _ _
  split <;> omega
theorem rep32 (n : Nat) : (List.replicate n [32]).flatten = List.replicate n 32 := rep_sign 32 n
theorem len_sum (ws : List (List Nat)) : (ws.map fun x => (x.length : Int)).sum = (total ws : Nat) := by
  induction ws with
  | nil => rfl
  | cons w r ih =>
    rw [List.map_cons, List.sum_cons, ih]
    simp [total]
end Tw
namespace Tw
open PySem PySem.Spec PyProof.Rows L2
/-! ### texts squared -/
theorem sprTail_len (more p : Nat) (hp : 0 < p) : ∀ (r : List (List Nat)) (k : Nat), r.length + k = p → (sprTail more p k r).length = total r + r.length * (1 + more / p) + (more % p - k)
  | [], k, h => by
    have : k = p := by simpa using h
    subst this
    have h2 := Nat.mod_lt more hp
    have : more % k - k = 0 := by omega
    simp [sprTail, total, this]
  | x :: r, k, h => by
    have ih := sprTail_len more p hp r (k + 1) (by simp only [List.length_cons] at h; omega)
    have e1 : total (x :: r) = x.length + total r := rfl
    simp only [sprTail, List.length_append, List.length_replicate]
    rw [ih, e1]
    unfold gap
    simp only [List.length_cons, Nat.succ_mul]
    by_cases c : k < more % p
    · rw [if_pos c]; omega
    · rw [if_neg c]; omega
/-- a line spread is as wide as told -/
theorem spr_len {ws : List (List Nat)} {wd : Nat} (h2 : 2 ≤ ws.length) (h : lsz ws ≤ wd) : (spr ws wd).length = wd := by
  match ws, h2, h with
  | x :: r, h2, h =>
    have hp : 0 < r.length := by simp only [List.length_cons] at h2; omega
    show (x ++ sprTail (wd - size (x :: r) 0 (x :: r).length) r.length 0 r).length = wd
    rw [size_all, List.length_append, sprTail_len _ _ hp r 0 (by omega)]
    have e1 : total (x :: r) = x.length + total r := rfl
    have e2 : lsz (x :: r) = total (x :: r) + ((x :: r).length - 1) := rfl
    have e3 := Nat.div_add_mod (wd - lsz (x :: r)) r.length
    have e4 : r.length * (1 + (wd - lsz (x :: r)) / r.length) = r.length + r.length * ((wd - lsz (x :: r)) / r.length) := by rw [Nat.mul_add, Nat.mul_one]
    simp only [List.length_cons] at e2
    omega
theorem spr_le {ws : List (List Nat)} {wd : Nat} (h : lsz ws ≤ wd) : (spr ws wd).length ≤ wd := by
  rcases Nat.lt_or_ge ws.length 2 with l | l
  · rw [spr_short l, jn_sp]; exact h
  · rw [spr_len l h]; exact Nat.le_refl _
theorem Tab.nonneg {ws : List (List Nat)} {wd : Int} {T : Nat → Int} (h : Tab ws wd T) : ∀ a, a ≤ ws.length → 0 ≤ T a := by
  have key : ∀ k a, a ≤ ws.length → ws.length - a = k → 0 ≤ T a := by
    intro k
    induction k using Nat.strongRecOn with
    | ind k ih =>
      intro a ha hk
      rcases Nat.lt_or_eq_of_le ha with l | l
      · obtain ⟨e, hb, he⟩ := h.2 a l
        have i1 : 0 ≤ T e := ih (ws.length - e) (by have := hb.1; have := hb.2.1; omega) e hb.2.1 rfl
        have := pr_nonneg ws wd a e
        omega
      · subst l
        rw [h.1]; exact Int.le_refl _
  exact fun a ha => key _ a ha rfl
theorem Best.wide {ws : List (List Nat)} {wd : Int} {T : Nat → Int} (t : Tab ws wd T) {a e : Nat} (h : Best ws wd T a e) (he : e < ws.length) : wd < ((size ws a ws.length : Nat) : Int) := by
  refine Int.lt_of_not_ge fun z => ?_
  have h1 := h.2.2.2 ws.length (by have := h.1; omega) (Nat.le_refl _) z
  rw [pr_last (e := ws.length) rfl, t.1] at h1
  have h2 := pr_nonneg ws wd a e
  have h3 := t.nonneg e h.2.1
  have := h1.2 (by omega)
  omega
theorem Best.two {ws : List (List Nat)} {wd : Int} {T : Nat → Int} (t : Tab ws wd T) {a e e2 : Nat} (h : Best ws wd T a e) (g : Best ws wd T e e2) : wd < ((size ws a e2 : Nat) : Int) := by
  refine Int.lt_of_not_ge fun z => ?_
  have ha := h.1
  have hg := g.1
  have h1 := h.2.2.2 e2 (by omega) g.2.1 z
  obtain ⟨e', g', ge⟩ := t.2 e (by have := g.2.1; omega)
  have := g'.only g
  subst this
  have p1 := pr_nonneg ws wd a e
  have p2 := pr_nonneg ws wd e e'
  by_cases hl : e' = ws.length
  · rw [pr_last (a := a) hl] at h1
    have := h1.2 (by omega)
    omega
  · have s1 := size_P ws h.1 h.2.1
    have s2 := size_P ws (show a < e' by omega) g.2.1
    have s3 := P_mono ws (Nat.le_of_lt hg)
    rw [pr_gap hl, pr_gap (show ¬ e = ws.length by have := g.2.1; omega)] at h1
    rw [pr_gap (show ¬ e = ws.length by have := g.2.1; omega)] at p1
    obtain ⟨x, hx⟩ : ∃ x : Int, wd - ((size ws a e' : Nat) : Int) = x := ⟨_, rfl⟩
    obtain ⟨y, hy⟩ : ∃ y : Int, wd - ((size ws a e : Nat) : Int) = y := ⟨_, rfl⟩
    rw [hx, hy] at h1
    have x0 : 0 ≤ x := by omega
    have xy : x < y := by omega
    have : x * x < y * y := Int.lt_of_le_of_lt (Int.mul_le_mul_of_nonneg_left (Int.le_of_lt xy) x0) (Int.mul_lt_mul_of_pos_right xy (by omega))
    omega
theorem Bc.best {ws : List (List Nat)} {wd : Int} {T : Nat → Int} : ∀ {ks : List Nat} {a : Nat}, Bc ws wd T a ks → ∀ p ∈ pairs ws.length ks, Best ws wd T p.1 p.2
  | [], _, _, p, hp => nomatch hp
  | [b], a, h, p, hp => by
    obtain ⟨rfl, e, hb, h5⟩ := h
    rw [pairs_one, List.mem_singleton] at hp
    subst hp
    have : e = ws.length := h5
    subst this
    exact hb
  | b :: c :: r, a, h, p, hp => by
    obtain ⟨rfl, e, hb, h5⟩ := h
    rw [pairs_cons] at hp
    have hc : c = e := h5.1
    rcases List.mem_cons.mp hp with z | z
    · subst z; subst hc; exact hb
    · exact Bc.best h5 p z
/-- not many lines for a wide text -/
theorem Bc.few {ws : List (List Nat)} {wd : Int} {T : Nat → Int} (t : Tab ws wd T) : ∀ {ks : List Nat} {a : Nat}, Bc ws wd T a ks → ks.length * wd.toNat + 2 * (total (ws.take a) + a) ≤ 2 * (total ws + ws.length) + wd.toNat
  | [], a, h => by
    have : a = ws.length := h
    subst this
    rw [List.take_length]; simp
  | [x], a, h => by
    obtain ⟨rfl, e, hb, _⟩ := h
    have := hb.1; have := hb.2.1
    have h1 := P_mono ws (show x ≤ ws.length by omega)
    rw [List.take_length] at h1
    simp only [List.length_singleton]; omega
  | x :: y :: r, a, h => by
    obtain ⟨rfl, e, hb, h5⟩ := h
    obtain ⟨rfl, e2, hb2, h6⟩ := h5
    have i := Bc.few t h6
    have w := hb.two t hb2
    have g1 := hb.1
    have g2 := hb2.1
    have s1 := size_P ws (show x < e2 by omega) hb2.2.1
    simp only [List.length_cons, Nat.succ_mul]
    omega
/-- the rows of a paragraph squared -/
def sq (ws : List (List Nat)) (n : Int) (ks : List Nat) : List (List Nat) := (pairs ws.length ks).map fun p => if p.2 < ws.length then spr (seg ws p.1 p.2) n.toNat else jn [32] (seg ws p.1 p.2)
theorem sq_length (ws : List (List Nat)) (n : Int) (ks : List Nat) : (sq ws n ks).length = ks.length := by unfold sq; rw [List.length_map, pairs_length]
def Sqb (n : Int) (p : List (List Nat)) (b : List Nat) : Prop := ∃ ks, Bst n p ks ∧ b = jn [10] (sq p n ks)
theorem Sqb.only {n : Int} (p : List (List Nat)) (b b' : List Nat) (h : Sqb n p b) (h' : Sqb n p b') : b = b' := by
  obtain ⟨ks, h1, rfl⟩ := h
  obtain ⟨ks', h2, rfl⟩ := h'
  rw [h1.only h2]
/-- all rows together -/
theorem sq_tot {p : List (List Nat)} {n : Int} {ks : List Nat} (hn : 1 ≤ n) (h : Bst n p ks) : total (sq p n ks) + ks.length ≤ 4 * (total p + p.length) ∧ ∀ x ∈ sq p n ks, x.length ≤ 4 * (total p + p.length) := by
  obtain ⟨T, t, b⟩ := h
  have hc := b.fc.ch
  have hkl := hc.len
  have few := b.few t
  have et : total (p.take 0) = 0 := rfl
  have one : ∀ x ∈ sq p n ks, x.length ≤ total p + p.length ∧ (x.length : Int) ≤ n := fun x hx => by
    unfold sq at hx
    obtain ⟨q, q1, rfl⟩ := List.mem_map.mp hx
    have hb := b.best q q1
    have hsz : ∀ a c, a < c → c ≤ p.length → size p a c ≤ total p + p.length := fun a c h1 h2 => by
      have := size_P p h1 h2
      have h3 := total_take p c
      omega
    have h0 := hsz _ _ hb.1 hb.2.1
    have h3 := hb.2.2.1
    have e0 : lsz (seg p q.1 q.2) = size p q.1 q.2 := rfl
    split
    · rename_i hlt
      have hw := hb.wide t hlt
      have h4 := hsz q.1 p.length (by have := hb.1; omega) (Nat.le_refl _)
      have h5 := spr_le (ws := seg p q.1 q.2) (wd := n.toNat) (by omega)
      omega
    · rw [jn_sp, e0]; omega
  refine ⟨?_, fun x hx => by have := (one x hx).1; omega⟩
  have htl := total_le (ws := sq p n ks) (b := min (total p + p.length) n.toNat) fun x hx => by have := one x hx; omega
  rw [sq_length] at htl
  match ks, htl, few, hkl, hc with
  | [], htl, _, _, _ => simp at htl ⊢; omega
  | [x], htl, _, hk, _ => simp only [List.length_singleton] at htl hk ⊢; omega
  | x :: y :: r, htl, few, hkl, hc =>
    have hm : n.toNat ≤ total p + p.length := by
      have hp0 : (x, y) ∈ pairs p.length (x :: y :: r) := by rw [pairs_cons]; exact List.mem_cons_self ..
      have hb := b.best _ hp0
      have hy : y < p.length := hc.lt (by simp)
      have hw := hb.wide t hy
      have := size_P p (show x < p.length by have := hb.1; show x < p.length; have : x < y := hb.1; omega) (Nat.le_refl _)
      have h3 := total_take p p.length
      have hw' : n < ((size p x p.length : Nat) : Int) := hw
      omega
    rw [Nat.min_eq_right hm] at htl
    omega
theorem Sqb.len {n : Int} (hn : 1 ≤ n) {p : List (List Nat)} {b : List Nat} (h : Sqb n p b) : b.length ≤ 4 * (total p + p.length) := by
  obtain ⟨ks, h1, rfl⟩ := h
  have := (sq_tot hn h1).1
  rw [jn_one]
  unfold lsz
  rw [sq_length]
  omega
theorem Bs.tot4 {R : List (List Nat) → List Nat → Prop} : ∀ {ps : List (List (List Nat))} {bs : List (List Nat)}, (∀ p ∈ ps, ∀ b, R p b → b.length ≤ 4 * (total p + p.length)) → Bs R ps bs → total bs ≤ 4 * (ptot ps + many ps)
  | [], [], _, _ => by simp [total]
  | p :: ps, b :: bs, o, h => by
    have h1 := o p (List.mem_cons_self ..) b h.1
    have h2 := Bs.tot4 (ps := ps) (bs := bs) (fun p hp => o p (List.mem_cons_of_mem _ hp)) h.2
    have e1 : total (b :: bs) = b.length + total bs := rfl
    have e2 : ptot (p :: ps) = total p + ptot ps := rfl
    have e3 : many (p :: ps) = p.length + many ps := rfl
    omega
  | [], _ :: _, _, h => h.elim
  | _ :: _, [], _, h => h.elim
theorem sq_len {n : Int} (hn : 1 ≤ n) {l : List Nat} {bs : List (List Nat)} (h : Bs (Sqb n) (parts l) bs) : total bs + bs.length * 2 ≤ 14 * l.length + 8 := by
  have h1 := h.tot4 fun p _ b hb => hb.len hn
  have h2 := parts_tot l
  have h3 := parts_many l
  have h4 := parts_length l
  have h5 := h.len
  omega
end Tw
namespace Tw
open PySem PySem.Spec PyProof.Rows L2
def topS (i : Nat) : Stmt := PySem.Challenge.pw_textwrapper_k13_whole_text_squared.main.body.getD i (.Pass ⟨0, 0, 0, 0⟩)
abbrev st_size_of : Stmt := topS 13
abbrev N_size_of : List Str := ["words", "begin", "end", "size", "word"]
theorem sc_size_of : FnScope N_size_of ["words", "begin", "end"] (defScope st_size_of) := ⟨rfl, rfl, rfl, by decide +kernel, rfl, by decide +kernel, by decide +kernel⟩
abbrev st_need_width : Stmt := topS 14
abbrev N_need_width : List Str := ["width"]
theorem sc_need_width : FnScope N_need_width ["width"] (defScope st_need_width) := ⟨rfl, rfl, rfl, by decide +kernel, rfl, by decide +kernel, by decide +kernel⟩
abbrev st_long_word : Stmt := topS 15
abbrev N_long_word : List Str := ["words", "width", "at"]
theorem sc_long_word : FnScope N_long_word ["words", "width"] (defScope st_long_word) := ⟨rfl, rfl, rfl, by decide +kernel, rfl, by decide +kernel, by decide +kernel⟩
abbrev st_need_fits : Stmt := topS 16
abbrev N_need_fits : List Str := ["words", "width"]
theorem sc_need_fits : FnScope N_need_fits ["words", "width"] (defScope st_need_fits) := ⟨rfl, rfl, rfl, by decide +kernel, rfl, by decide +kernel, by decide +kernel⟩
abbrev st_line_price : Stmt := topS 17
abbrev N_line_price : List Str := ["words", "width", "begin", "end", "gap"]
theorem sc_line_price : FnScope N_line_price ["words", "width", "begin", "end"] (defScope st_line_price) := ⟨rfl, rfl, rfl, by decide +kernel, rfl, by decide +kernel, by decide +kernel⟩
abbrev st_are_starts : Stmt := topS 19
abbrev N_are_starts : List Str := ["words", "starts", "k"]
theorem sc_are_starts : FnScope N_are_starts ["words", "starts"] (defScope st_are_starts) := ⟨rfl, rfl, rfl, by decide +kernel, rfl, by decide +kernel, by decide +kernel⟩
abbrev st_spans_of : Stmt := topS 20
abbrev N_spans_of : List Str := ["words", "starts", "ends", "k"]
theorem sc_spans_of : FnScope N_spans_of ["words", "starts"] (defScope st_spans_of) := ⟨rfl, rfl, rfl, by decide +kernel, rfl, by decide +kernel, by decide +kernel⟩
abbrev st_best_end : Stmt := topS 22
abbrev N_best_end : List Str := ["words", "width", "table", "at", "found", "least", "size", "end", "price"]
theorem sc_best_end : FnScope N_best_end ["words", "width", "table", "at"] (defScope st_best_end) := ⟨rfl, rfl, rfl, by decide +kernel, rfl, by decide +kernel, by decide +kernel⟩
abbrev st_grown : Stmt := topS 23
abbrev N_grown : List Str := ["words", "width", "tail", "count", "table", "at", "end", "k"]
theorem sc_grown : FnScope N_grown ["words", "width", "tail"] (defScope st_grown) := ⟨rfl, rfl, rfl, by decide +kernel, rfl, by decide +kernel, by decide +kernel⟩
abbrev st_table_of : Stmt := topS 24
abbrev N_table_of : List Str := ["words", "width"]
theorem sc_table_of : FnScope N_table_of ["words", "width"] (defScope st_table_of) := ⟨rfl, rfl, rfl, by decide +kernel, rfl, by decide +kernel, by decide +kernel⟩
abbrev st_starts_by : Stmt := topS 25
abbrev N_starts_by : List Str := ["words", "width", "table", "found", "at"]
theorem sc_starts_by : FnScope N_starts_by ["words", "width", "table"] (defScope st_starts_by) := ⟨rfl, rfl, rfl, by decide +kernel, rfl, by decide +kernel, by decide +kernel⟩
abbrev st_best_starts : Stmt := topS 26
abbrev N_best_starts : List Str := ["words", "width"]
theorem sc_best_starts : FnScope N_best_starts ["words", "width"] (defScope st_best_starts) := ⟨rfl, rfl, rfl, by decide +kernel, rfl, by decide +kernel, by decide +kernel⟩
abbrev st_words_of : Stmt := topS 28
abbrev N_words_of : List Str := ["text", "found", "word", "sign"]
theorem sc_words_of : FnScope N_words_of ["text"] (defScope st_words_of) := ⟨rfl, rfl, rfl, by decide +kernel, rfl, by decide +kernel, by decide +kernel⟩
abbrev st_paragraphs_of : Stmt := topS 29
abbrev N_paragraphs_of : List Str := ["text", "found", "held", "row", "words"]
theorem sc_paragraphs_of : FnScope N_paragraphs_of ["text"] (defScope st_paragraphs_of) := ⟨rfl, rfl, rfl, by decide +kernel, rfl, by decide +kernel, by decide +kernel⟩
abbrev st_spread_line : Stmt := topS 31
abbrev N_spread_line : List Str := ["words", "width", "size", "more", "places", "line", "k", "blanks"]
theorem sc_spread_line : FnScope N_spread_line ["words", "width"] (defScope st_spread_line) := ⟨rfl, rfl, rfl, by decide +kernel, rfl, by decide +kernel, by decide +kernel⟩
abbrev st_squared : Stmt := topS 32
abbrev N_squared : List Str := ["text", "width", "parts", "words", "rows", "span", "line"]
theorem sc_squared : FnScope N_squared ["text", "width"] (defScope st_squared) := ⟨rfl, rfl, rfl, by decide +kernel, rfl, by decide +kernel, by decide +kernel⟩
abbrev st__law_cell_at : Stmt := topS 34
abbrev N__law_cell_at : List Str := ["_law_script", "_law_k"]
theorem sc__law_cell_at : FnScope N__law_cell_at ["_law_script", "_law_k"] (defScope st__law_cell_at) := ⟨rfl, rfl, rfl, by decide +kernel, rfl, by decide +kernel, by decide +kernel⟩
abbrev st__law_sign_by : Stmt := topS 35
abbrev N__law_sign_by : List Str := ["_law_cell", "_law_some"]
theorem sc__law_sign_by : FnScope N__law_sign_by ["_law_cell"] (defScope st__law_sign_by) := ⟨rfl, rfl, rfl, by decide +kernel, rfl, by decide +kernel, by decide +kernel⟩
abbrev st__law_text_by : Stmt := topS 36
abbrev N__law_text_by : List Str := ["_law_cells", "_law_flowing", "_law_signs", "_law_cell", "_law_size_here", "_law_k"]
theorem sc__law_text_by : FnScope N__law_text_by ["_law_cells", "_law_flowing"] (defScope st__law_text_by) := ⟨rfl, rfl, rfl, by decide +kernel, rfl, by decide +kernel, by decide +kernel⟩
abbrev st__law_parts : Stmt := topS 37
abbrev N__law_parts : List Str := ["_law_signs", "_law_parts_here", "_law_held", "_law_last", "_law_sign"]
theorem sc__law_parts : FnScope N__law_parts ["_law_signs"] (defScope st__law_parts) := ⟨rfl, rfl, rfl, by decide +kernel, rfl, by decide +kernel, by decide +kernel⟩
abbrev st__law_whole : Stmt := topS 38
abbrev N__law_whole : List Str := ["_law_found"]
theorem sc__law_whole : FnScope N__law_whole ["_law_found"] (defScope st__law_whole) := ⟨rfl, rfl, rfl, by decide +kernel, rfl, by decide +kernel, by decide +kernel⟩
abbrev st__law_wholes : Stmt := topS 39
abbrev N__law_wholes : List Str := ["_law_found", "_law_one"]
theorem sc__law_wholes : FnScope N__law_wholes ["_law_found"] (defScope st__law_wholes) := ⟨rfl, rfl, rfl, by decide +kernel, rfl, by decide +kernel, by decide +kernel⟩
abbrev st__law_size : Stmt := topS 40
abbrev N__law_size : List Str := ["_law_row", "_law_begin", "_law_end"]
theorem sc__law_size : FnScope N__law_size ["_law_row", "_law_begin", "_law_end"] (defScope st__law_size) := ⟨rfl, rfl, rfl, by decide +kernel, rfl, by decide +kernel, by decide +kernel⟩
abbrev st__law_are_starts : Stmt := topS 41
abbrev N__law_are_starts : List Str := ["_law_row", "_law_width", "_law_found", "_law_ends", "_law_k"]
theorem sc__law_are_starts : FnScope N__law_are_starts ["_law_row", "_law_width", "_law_found"] (defScope st__law_are_starts) := ⟨rfl, rfl, rfl, by decide +kernel, rfl, by decide +kernel, by decide +kernel⟩
abbrev st__law_spread : Stmt := topS 42
abbrev N__law_spread : List Str := ["_law_row", "_law_width", "_law_blanks", "_law_line", "_law_k", "_law_word"]
theorem sc__law_spread : FnScope N__law_spread ["_law_row", "_law_width"] (defScope st__law_spread) := ⟨rfl, rfl, rfl, by decide +kernel, rfl, by decide +kernel, by decide +kernel⟩
abbrev st__law_kind : Stmt := topS 43
abbrev N__law_kind : List Str := ["_law_e", "_law_flags", "_law_k"]
theorem sc__law_kind : FnScope N__law_kind ["_law_e"] (defScope st__law_kind) := ⟨rfl, rfl, rfl, by decide +kernel, rfl, by decide +kernel, by decide +kernel⟩
abbrev st__law_refusal : Stmt := topS 44
abbrev N__law_refusal : List Str := ["_law_signs", "_law_width", "_law_e"]
theorem sc__law_refusal : FnScope N__law_refusal ["_law_signs", "_law_width"] (defScope st__law_refusal) := ⟨rfl, rfl, rfl, by decide +kernel, rfl, by decide +kernel, by decide +kernel⟩
abbrev st__law_longest : Stmt := topS 45
abbrev N__law_longest : List Str := ["_law_parts_here", "_law_most", "_law_held", "_law_word"]
theorem sc__law_longest : FnScope N__law_longest ["_law_parts_here"] (defScope st__law_longest) := ⟨rfl, rfl, rfl, by decide +kernel, rfl, by decide +kernel, by decide +kernel⟩
abbrev st__law_squared : Stmt := topS 46
abbrev N__law_squared : List Str := ["_law_parts_here", "_law_width", "_law_blocks", "_law_held", "_law_told", "_law_ends", "_law_rows", "_law_k"]
theorem sc__law_squared : FnScope N__law_squared ["_law_parts_here", "_law_width"] (defScope st__law_squared) := ⟨rfl, rfl, rfl, by decide +kernel, rfl, by decide +kernel, by decide +kernel⟩
abbrev st_law : Stmt := topS 47
abbrev N_law : List Str := ["_law_script", "_law_signs", "_law_parts_here", "_law_width", "_law_due", "_law_found"]
theorem sc_law : FnScope N_law ["_law_script"] (defScope st_law) := ⟨rfl, rfl, rfl, by decide +kernel, rfl, by decide +kernel, by decide +kernel⟩
section
variable {P : Program} {w : World} {K : PySem.W.Frag} {mg : Str → Option Value} {base : Heap}
def sp_size_of (K : PySem.W.Frag) : Sp := fun vs H Q _ => ∃ (p : Addr) (ws : List (List Nat)) (a b : Nat), vs = [.ref p, .int a, .int b] ∧ SqL K H p (vts ws) ∧ Bw ws ∧ a ≤ b ∧ b ≤ ws.length ∧
  ∀ H', Same H H' → Q (.int (size ws a b : Nat)) H'
theorem ok_size_of (A : At K mg "size_of" ["words", "begin", "end"] st_size_of) (T : Bts mg) : Ok P w K mg base CX0 1 "size_of" ["words", "begin", "end"] (sp_size_of K) := by
  refine A.ok sc_size_of (fun vs H Q E h => ?_) (fun f cdv A outer s H vs Q E hr h => ?_)
  · obtain ⟨p, ws, a, b, rfl, _⟩ := h; rfl
  · obtain ⟨p, ws, a, b, rfl, hS, hw, hab, hb, q⟩ := h
    refine ⟨_, (pss_cons (ps_set (i := 3) sc_size_of.nd rfl (Or.inl rfl) (pe_callB (call_max2 rfl) (by rfl) T.m_max (by decide +kernel) (pa_cons pe_int (pa_cons (pe_op op_sub (pe_op op_sub (pv 2) (pv 1)) pe_int) pa_nil))))
      (pss_cons (ps_for PassesOwn.never rfl (pi_list (pe_slice (sl_listK K) (pv 0) (po_some (pv 1)) (po_some (pv 2)))) (pg_name (i := 4) sc_size_of.nd rfl (Or.inl rfl))
      (pss_one (ps_set (i := 3) sc_size_of.nd rfl (Or.inl rfl) (pe_op op_add (pv 3) (pe_callB call_len_str (by rfl) T.m_len PySem.boot_len (pa_cons (pv 4) pa_nil))))))
      (pss_one (ps_ret (pv 3))))), ?_⟩
    refine ⟨_, rfl, _, rfl, _, _, rfl, rfl, _, _, rfl, rfl, 0, (b : Int) - a - 1, rfl, ?_⟩
    refine ⟨_, rfl, _, rfl, a, rfl, _, rfl, b, rfl, p, _, rfl, hS, fun c nc => ?_⟩
    have ec : cutV (vts ws) (some (a : Int)) (some (b : Int)) = vts (seg ws a b) := cut_ft vt ws a b
    have s1 := (Same.refl H).new (o := HO.lst (cutV (vts ws) (some (a : Int)) (some (b : Int)))) nc
    have e1 : (upd H c (HO.lst (cutV (vts ws) (some (a : Int)) (some (b : Int))))) c = some (.lst (vts (seg ws a b))) := by rw [upd_same, ec]
    generalize upd H c (HO.lst (cutV (vts ws) (some (a : Int)) (some (b : Int)))) = H1 at s1 e1 ⊢
    have hl := seg_length ws (a := a) hb
    have hm : (if (b : Int) - a - 1 > 0 then (b : Int) - a - 1 else 0) = (((seg ws a b).length - 1 : Nat) : Int) := by
      rw [hl]; split <;> omega
    refine ⟨c, rfl, ⟨_, .of e1⟩, ?_⟩
    refine for_lst (f := vt) (l := seg ws a b) (fun d r σ H3 => H3 = H1 ∧ ∃ y, σ = [some (.ref p), some (.int a), some (.int b), some (.int (((seg ws a b).length - 1 : Nat) + (total d : Nat))), y]) ?_ ?_ ?_ ?_
    · exact ⟨rfl, none, by rw [hm]; simp [total]; rfl⟩
    · rintro d r σ H3 ⟨rfl, _⟩; exact .of e1
    · rintro d x r σ H3 e ⟨rfl, y, rfl⟩
      have hx : x ∈ ws := seg_mem (a := a) (b := b) (by rw [e]; simp)
      refine ⟨_, rfl, _, rfl, tx x, rfl, by rw [tx_len]; exact sz (by have := hw.wl hx; omega), _, _, rfl, rfl, rfl, some (vt x), ?_⟩
      rw [total_app, tx_len]
      have : total [x] = x.length := by simp [total]
      rw [this]
      have e9 : (((seg ws a b).length - 1 : Nat) : Int) + (total d : Nat) + (x.length : Nat) = (((seg ws a b).length - 1 : Nat) : Int) + ((total d + x.length : Nat) : Int) := by omega
      exact congrArg (fun z => [some (V.ref p), some (V.int a), some (V.int b), some (V.int z), some (vt x)]) e9
    · rintro σ H3 ⟨rfl, y, rfl⟩
      refine ⟨_, rfl, ?_⟩
      have e9 : (((seg ws a b).length - 1 : Nat) : Int) + (total (seg ws a b) : Nat) = ((size ws a b : Nat) : Int) := by
        unfold size lsz; omega
      rw [e9]
      exact q _ s1

def sp_need_width (ea : EA) : Sp := fun vs H Q E => ∃ n : Int, vs = [.int n] ∧ (n < 1 → E (.ref ea.nw) none H) ∧ (1 ≤ n → Q .non H)
theorem ok_need_width {ea : EA} (A : At K mg "need_width" ["width"] st_need_width) (T : Bts mg) (X : Xs K mg ea) : Ok P w K mg base (CXn P w) 1 "need_width" ["width"] (sp_need_width ea) := by
  refine A.okX sc_need_width (fun vs H Q E h => ?_) (fun f cdv A outer s H vs Q E hr h => ?_)
  · obtain ⟨n, rfl, _⟩ := h; rfl
  · obtain ⟨n, rfl, e, q⟩ := h
    refine ⟨_, (pss_one (ps_if (pt_cmpR op_lt (pv 0) pe_int (nomark _)) (pss_one (L2N.ps_raise rfl (L2N.takes_of rfl rfl rfl rfl) (X.c_NoWidth.mk_raise (by rfl)))) pss_nil)), ?_⟩
    refine ⟨_, rfl, _, _, rfl, rfl, _, rfl, tst (c := n < 1) rfl (fun h1 => ?_) (fun h1 => ?_)⟩
    · exact e h1
    · exact q (by omega)

def sp_long_word (K : PySem.W.Frag) (ea : EA) : Sp := fun vs H Q E => ∃ (p : Addr) (ws : List (List Nat)) (n : Int), vs = [.ref p, .int n] ∧ SqL K H p (vts ws) ∧ Bw ws ∧
  (n < 1 → E (.ref ea.nw) none H) ∧ (1 ≤ n → Q (vlong ws n) H)
theorem ok_long_word {ea : EA} (A : At K mg "long_word" ["words", "width"] st_long_word) (T : Bts mg) (X : Xs K mg ea)
    (G_need_width : Ok P w K mg base (CXn P w) 1 "need_width" ["width"] (sp_need_width ea)) : Ok P w K mg base (CXn P w) 2 "long_word" ["words", "width"] (sp_long_word K ea) := by
  refine A.okX sc_long_word (fun vs H Q E h => ?_) (fun f cdv A outer s H vs Q E hr h => ?_)
  · obtain ⟨p, ws, n, rfl, _⟩ := h; rfl
  · obtain ⟨p, ws, n, rfl, hS, hw, e, q⟩ := h
    refine ⟨_, (pss_cons (ps_expr (pe_cd G_need_width (hr.mono (by decide)) passR (pa_cons (pv 1) pa_nil)))
      (PSs.nox (pss_cons (ps_for PassesOwn.never rfl (pi_range1 (by rfl) T.m_range (pa_cons (pe_callB (call_lenK K) (by rfl) T.m_len PySem.boot_len (pa_cons (pv 0) pa_nil)) pa_nil)) (pg_name (i := 2) sc_long_word.nd rfl (Or.inl rfl))
      (pss_one (ps_if (pt_cmpR op_gt (pe_callB call_len_str (by rfl) T.m_len PySem.boot_len (pa_cons (pe_ix (ix_listK K) (pv 0) (pv 2) (fun _ _ => rfl)) pa_nil)) (pv 1) (nomark _)) (pss_one (ps_ret (pv 2))) pss_nil)))
      (pss_one (ps_ret pe_non))))), ?_⟩
    refine ⟨_, rfl, n, rfl, e, fun n1 => ?_⟩
    refine ⟨_, rfl, p, _, rfl, .inl hS, ((vts ws).length : Nat), rfl, by omega, by rw [List.length_map]; have := hw.le; omega, ?_⟩
    rw [Int.toNat_natCast]
    refine for_range (n := (vts ws).length) (fun i σ H3 => H3 = H ∧ (∀ j (h : j < i) (h2 : j < ws.length), (ws[j].length : Int) ≤ n) ∧ ∃ y, σ = [some (.ref p), some (.int n), y]) ⟨rfl, (fun j h => by omega), none, rfl⟩ ?_ ?_
    · rintro i σ H3 hi ⟨rfl, hj, y, rfl⟩
      have hi' : i < ws.length := by rw [List.length_map] at hi; exact hi
      have e0 : (0 + (i : Int)) = (i : Int) := by omega
      refine ⟨_, rfl, _, rfl, p, _, _, _, rfl, rfl, hS, at_of e0 (flat_get (List.getElem?_eq_getElem hi')), tx ws[i], rfl, by rw [tx_len]; exact sz (by have := hw.wl (List.getElem_mem hi'); omega), _, rfl, _, _, rfl, rfl, _, rfl, tst (c := n < (ws[i].length : Int)) (by rw [tx_len]) (fun h1 => ?_) (fun h1 => ?_)⟩
      · refine ⟨_, rfl, ?_⟩
        rw [e0, ← vlong_some hi' (fun j h => hj j h (by omega)) h1]
        exact q n1
      · refine ⟨rfl, fun j h h2 => ?_, _, rfl⟩
        by_cases e : j = i
        · subst e; omega
        · exact hj j (by omega) h2
    · rintro σ H3 ⟨rfl, hj, y, rfl⟩
      have e : vlong ws n = .non := vlong_none fun x hx => by
        obtain ⟨i, hi, e⟩ := List.mem_iff_getElem.mp hx
        rw [← e]
        exact hj i (by rw [List.length_map]; exact hi) hi
      have q1 := q n1
      rw [e] at q1
      exact q1

def sp_need_fits (K : PySem.W.Frag) (ea : EA) : Sp := fun vs H Q E => ∃ (p : Addr) (ws : List (List Nat)) (n : Int), vs = [.ref p, .int n] ∧ SqL K H p (vts ws) ∧ Bw ws ∧
  (n < 1 → E (.ref ea.nw) none H) ∧ (1 ≤ n → n < (longest ws : Nat) → E (.ref ea.lw) none H) ∧ (Ft ws n → Q .non H)
theorem ok_need_fits {ea : EA} (A : At K mg "need_fits" ["words", "width"] st_need_fits) (T : Bts mg) (X : Xs K mg ea) (G_long_word : Ok P w K mg base (CXn P w) 2 "long_word" ["words", "width"] (sp_long_word K ea)) :
    Ok P w K mg base (CXn P w) 3 "need_fits" ["words", "width"] (sp_need_fits K ea) := by
  refine A.okX sc_need_fits (fun vs H Q E h => ?_) (fun f cdv A outer s H vs Q E hr h => ?_)
  · obtain ⟨p, ws, n, rfl, _⟩ := h; rfl
  · obtain ⟨p, ws, n, rfl, hS, hw, e1, e2, q⟩ := h
    refine ⟨_, (pss_one (ps_if (pt_cmpR op_notN (pe_cd G_long_word (hr.mono (by decide)) passR (pa_cons (pv 0) (pa_cons (pv 1) pa_nil))) pe_non (nomark _)) (pss_one (L2N.ps_raise rfl (L2N.takes_of rfl rfl rfl rfl) (X.c_LongWord.mk_raise (by rfl)))) pss_nil)), ?_⟩
    refine ⟨_, rfl, _, rfl, p, ws, n, rfl, hS, hw, e1, fun n1 => ?_⟩
    rcases vlong_cases ws n with ⟨ev, hv⟩ | ⟨k, _, ev, w, hw1, hw2⟩
    · rw [ev]
      exact ⟨rfl, _, rfl, iteF (q ⟨n1, hv⟩)⟩
    · rw [ev]
      have := longest_ge hw1
      exact ⟨rfl, _, rfl, iteT (e2 n1 (by omega))⟩

def sp_line_price (K : PySem.W.Frag) : Sp := fun vs H Q _ => ∃ (p : Addr) (ws : List (List Nat)) (n : Int) (a e : Nat), vs = [.ref p, .int n, .int a, .int e] ∧ SqL K H p (vts ws) ∧ Bw ws ∧ Wb n ∧ a ≤ e ∧ e ≤ ws.length ∧
  ∀ H', Same H H' → Q (.int (pr ws n a e)) H'
theorem ok_line_price (A : At K mg "line_price" ["words", "width", "begin", "end"] st_line_price) (T : Bts mg) (G_size_of : Ok P w K mg base CX0 1 "size_of" ["words", "begin", "end"] (sp_size_of K)) :
    Ok P w K mg base CX0 2 "line_price" ["words", "width", "begin", "end"] (sp_line_price K) := by
  refine A.ok sc_line_price (fun vs H Q E h => ?_) (fun f cdv A outer s H vs Q E hr h => ?_)
  · obtain ⟨p, ws, n, a, e, rfl, _⟩ := h; rfl
  · obtain ⟨p, ws, n, a, e, rfl, hS, hw, hn, hae, he, q⟩ := h
    refine ⟨_, (pss_cons (ps_if (pt_cmpR op_eq (pv 3) (pe_callB (call_lenK K) (by rfl) T.m_len PySem.boot_len (pa_cons (pv 0) pa_nil)) (nomark _)) (pss_one (ps_ret pe_int)) pss_nil)
      (pss_cons (ps_set (i := 4) sc_line_price.nd rfl (Or.inl rfl) (pe_op op_sub (pv 1) (pe_cd G_size_of (hr.mono (by decide)) pass0 (pa_cons (pv 0) (pa_cons (pv 2) (pa_cons (pv 3) pa_nil))))))
      (pss_one (ps_ret (pe_op op_mulW (pv 4) (pv 4)))))), ?_⟩
    refine ⟨_, rfl, _, rfl, p, _, rfl, .inl hS, rfl, _, rfl, tst (c := e = ws.length) (by rw [dec_vi, List.length_map]; simp only [decide_eq_decide]; omega) (fun h1 => ?_) (fun h1 => ?_)⟩
    · have := q H (Same.refl H)
      rw [pr_last h1] at this; exact this
    · have hs := hw.size a e
      refine ⟨_, rfl, _, rfl, _, rfl, _, rfl, p, ws, a, e, rfl, hS, hw, hae, he, fun H' s' => ?_⟩
      refine ⟨_, _, rfl, rfl, _, rfl, _, rfl, _, _, rfl, rfl, hn.mul (by omega), ?_⟩
      have := q H' s'
      rw [pr_gap h1] at this; exact this

def sp_are_starts (K : PySem.W.Frag) : Sp := fun vs H Q _ => ∃ (p q : Addr) (ws : List (List Nat)) (ss : List Int), vs = [.ref p, .ref q] ∧ SqL K H p (vts ws) ∧ SqL K H q (vis ss) ∧ Bw ws ∧ ss.length ≤ 1000000 ∧
  ∀ H' b, Same H H' → (b = true ↔ good ss ws.length) → Q (.bl b) H'
theorem ok_are_starts (A : At K mg "are_starts" ["words", "starts"] st_are_starts) (T : Bts mg) : Ok P w K mg base CX0 1 "are_starts" ["words", "starts"] (sp_are_starts K) := by
  refine A.ok sc_are_starts (fun vs H Q E h => ?_) (fun f cdv A outer s H vs Q E hr h => ?_)
  · obtain ⟨p, q, ws, ss, rfl, _⟩ := h; rfl
  · obtain ⟨p, q, ws, ss, rfl, hS, hT, hw, hle, k⟩ := h
    refine ⟨_, (pss_cons (ps_if (pt_cmpR (op_eqL hr) (pv 1) (pe_lst pa_nil) (nomark _)) (pss_one (ps_ret (pe_cmpR (op_eqL hr) (pv 0) (pe_lst pa_nil) (nomark _)))) pss_nil)
      (pss_cons (ps_if (PW.pt (pw_or (pt_cmpR op_ne (pe_ix (ix_listK K) (pv 1) pe_int (fun _ _ => rfl)) pe_int (nomark _)) (pw_or1 (pt_cmpR op_ge (pe_ix (ix_listK K) (pv 1) (pe_un un_neg pe_int) (fun _ _ => rfl)) (pe_callB (call_lenK K) (by rfl) T.m_len PySem.boot_len (pa_cons (pv 0) pa_nil)) (nomark _))))) (pss_one (ps_ret pe_bl)) pss_nil)
      (pss_cons (ps_for PassesOwn.never rfl (pi_range2 (by rfl) T.m_range (pa_cons pe_int (pa_cons (pe_callB (call_lenK K) (by rfl) T.m_len PySem.boot_len (pa_cons (pv 1) pa_nil)) pa_nil))) (pg_name (i := 2) sc_are_starts.nd rfl (Or.inl rfl))
      (pss_one (ps_if (pt_cmpR op_ge (pe_ix (ix_listK K) (pv 1) (pe_op op_sub (pv 2) pe_int) (fun _ _ => rfl)) (pe_ix (ix_listK K) (pv 1) (pv 2) (fun _ _ => rfl)) (nomark _)) (pss_one (ps_ret pe_bl)) pss_nil)))
      (pss_one (ps_ret pe_bl))))), ?_⟩
    refine ⟨_, rfl, sz (by simp), fun d nd => ?_⟩
    have s1 := (Same.refl H).new (o := HO.lst []) nd
    have ed : (upd H d (HO.lst [])) d = some (.lst []) := upd_same
    generalize upd H d (HO.lst []) = H1 at s1 ed ⊢
    refine ⟨q, d, _, _, rfl, rfl, s1.seq hT, .of ed, flat_vis ss, rfl, _, rfl, tst (c := ss = []) (by simp only [decide_eq_decide]; exact List.map_eq_nil_iff) (fun h1 => ?_) (fun h1 => ?_)⟩
    · subst h1
      refine ⟨_, rfl, sz (by simp), fun d2 nd2 => ?_⟩
      have s2 := s1.new (o := HO.lst []) nd2
      have ed2 : (upd H1 d2 (HO.lst [])) d2 = some (.lst []) := upd_same
      generalize upd H1 d2 (HO.lst []) = H2 at s2 ed2 ⊢
      refine ⟨p, d2, _, _, rfl, rfl, s2.seq hS, .of ed2, hw.flat, rfl, k _ _ s2 ?_⟩
      rw [good_nil, decide_eq_true_iff, List.map_eq_nil_iff, List.length_eq_zero_iff]
    have hT1 := s1.seq hT
    have hl : 0 < ss.length := List.length_pos_iff.mpr h1
    have h0 : (vis ss)[0]? = some (V.int (ss.head h1)) := by
      rw [List.getElem?_map, List.head_eq_getElem, List.getElem?_eq_getElem hl]; rfl
    have gc := good_cons ss h1 ws.length
    refine ⟨_, rfl, q, _, _, _, rfl, rfl, hT1, atI_nat (j := 0) h0, rfl, _, rfl, tsn (c := ss.head h1 = 0) (by rw [dec_vi]) (fun h2 => ?_) (fun h2 => ?_)⟩
    · exact k _ _ s1 ⟨fun z => (nomatch z), fun z => absurd (gc.mp z).1 h2⟩
    refine ⟨_, rfl, _, rfl, q, _, _, _, rfl, rfl, hT1, vis_last h1, _, rfl, p, _, rfl, .inl (s1.seq hS), _, _, rfl, rfl, _, rfl, tst (c := (ws.length : Int) ≤ ss.getLast h1) (by rw [List.length_map]) (fun h3 => ?_) (fun h3 => ?_)⟩
    · exact k _ _ s1 ⟨fun z => (nomatch z), fun z => by have := (gc.mp z).2.1; omega⟩
    have hlen : (((vis ss).length : Nat) : Int) = (ss.length : Nat) := by rw [List.length_map]
    refine ⟨_, rfl, q, _, rfl, .inl hT1, 1, (ss.length : Nat), by rw [hlen], ?_, ?_⟩
    · refine ⟨by decide, by decide, by omega, by omega⟩
    refine for_range (n := ((ss.length : Int) - 1).toNat) (fun i σ H3 => H3 = H1 ∧ (∃ z, σ = [some (.ref p), some (.ref q), z]) ∧ ∀ k (h : k + 1 < ss.length), k < i → ss[k] < ss[k + 1]) ?_ ?_ ?_
    · exact ⟨rfl, ⟨_, rfl⟩, fun _ _ z => absurd z (Nat.not_lt_zero _)⟩
    · rintro i σ H3 hi ⟨rfl, ⟨z, rfl⟩, a⟩
      have hi1 : i + 1 < ss.length := by omega
      have e0 : (1 + (i : Int)) - 1 = (i : Int) := by omega
      have e1 : (1 + (i : Int)) = ((i + 1 : Nat) : Int) := by omega
      have g0 : (vis ss)[i]? = some (V.int ss[i]) := flat_get (List.getElem?_eq_getElem (by omega))
      have g1 : (vis ss)[i + 1]? = some (V.int ss[i + 1]) := flat_get (List.getElem?_eq_getElem hi1)
      refine ⟨_, rfl, _, rfl, _, _, rfl, rfl, q, _, _, _, rfl, rfl, hT1, at_of e0 g0, _, rfl, _, rfl, q, _, _, _, rfl, rfl, hT1, at_of e1 g1, _, _, rfl, rfl, _, rfl, tst (c := ss[i + 1] ≤ ss[i]) rfl (fun h4 => ?_) (fun h4 => ?_)⟩
      · exact k _ _ s1 ⟨fun z => (nomatch z), fun z => by have := (gc.mp z).2.2 i hi1; omega⟩
      · refine ⟨rfl, ⟨_, rfl⟩, fun k hk hki => ?_⟩
        rcases Nat.lt_or_ge k i with h | h
        · exact a k hk h
        · have : k = i := by omega
          subst this; omega
    · rintro σ H3 ⟨rfl, ⟨z, rfl⟩, a⟩
      refine k _ _ s1 ⟨fun _ => gc.mpr ⟨h2, by omega, fun k h => a k h (by omega)⟩, fun _ => rfl⟩

/-- refs to pairs of begin and end -/
def Spans (H : Hp) (ts : List Addr) (ps : List (Nat × Nat)) : Prop := ts.length = ps.length ∧ ∀ (k : Nat) (t : Addr) (p : Nat × Nat), ts[k]? = some t → ps[k]? = some p → H t = some (.tup [.int (p.1 : Nat), .int (p.2 : Nat)])
theorem Spans.same {H H' : Hp} {ts : List Addr} {ps : List (Nat × Nat)} (h : Spans H ts ps) (s : Same H H') : Spans H' ts ps := ⟨h.1, fun k t p h1 h2 => s _ _ (h.2 k t p h1 h2)⟩
def sp_spans_of (K : PySem.W.Frag) (ea : EA) : Sp := fun vs H Q E => ∃ (p q : Addr) (ws : List (List Nat)) (ss : List Int), vs = [.ref p, .ref q] ∧ SqL K H p (vts ws) ∧ SqL K H q (vis ss) ∧ Bw ws ∧ ss.length ≤ 1000000 ∧
  (¬ good ss ws.length → ∀ H', Same H H' → E (.ref ea.ns) none H') ∧
  (∀ ks H' o ts, ss = toI ks → Ch ws.length 0 ks → Same H H' → H o = none → H' o = some (.lst (ts.map V.ref)) → Spans H' ts (pairs ws.length ks) → Q (.ref o) H')
theorem ok_spans_of {ea : EA} (A : At K mg "spans_of" ["words", "starts"] st_spans_of) (T : Bts mg) (X : Xs K mg ea) (G_are_starts : Ok P w K mg base CX0 1 "are_starts" ["words", "starts"] (sp_are_starts K)) :
    Ok P w K mg base (CXn P w) 2 "spans_of" ["words", "starts"] (sp_spans_of K ea) := by
  refine A.okX sc_spans_of (fun vs H Q E h => ?_) (fun f cdv A outer s H vs Q E hr h => ?_)
  · obtain ⟨p, q, ws, ss, rfl, _⟩ := h; rfl
  · obtain ⟨p, q, ws, ss, rfl, hS, hT, hw, hle, e, k⟩ := h
    refine ⟨_, (pss_cons (ps_if (pt_not (pt_val (pe_cd G_are_starts (hr.mono (by decide)) pass0 (pa_cons (pv 0) (pa_cons (pv 1) pa_nil))))) (pss_one (L2N.ps_raise rfl (L2N.takes_of rfl rfl rfl rfl) (X.c_NoStarts.mk_raise (by rfl)))) pss_nil)
      (PSs.nox (pss_cons (ps_set (i := 2) sc_spans_of.nd rfl (Or.inr rfl) (pe_op op_cat (pe_slice (sl_listK K) (pv 1) (po_some pe_int) po_none) (pe_lst (pa_cons (pe_callB (call_lenK K) (by rfl) T.m_len PySem.boot_len (pa_cons (pv 0) pa_nil)) pa_nil))))
      (pss_one (ps_ret (pe_lc (own := [("k", 3)]) (g := gName 3) (tt := tYes) rfl sc_spans_of.nd (pi_range1 (by rfl) T.m_range (pa_cons (pe_callB (call_lenK K) (by rfl) T.m_len PySem.boot_len (pa_cons (pv 1) pa_nil)) pa_nil)) (blkOk_by (own := [("k", 3)]) (N := N_spans_of) (sc := defScope st_spans_of) (by decide +kernel)) (fun _ _ _ _ _ => pg_name (i := 3) sc_spans_of.nd rfl (Or.inl rfl)) (fun _ _ _ _ _ => pts_nil) (fun _ _ _ _ _ => (pe_tup (pa_cons (pe_ix (ix_listK K) (pv 1) (pv 3) (fun _ _ => rfl)) (pa_cons (pe_ix (ix_listK K) (pv 2) (pv 3) (fun _ _ => rfl)) pa_nil)))))))))), ?_⟩
    refine ⟨_, rfl, _, rfl, p, q, ws, ss, rfl, hS, hT, hw, hle, fun H1 b s1 hb => ⟨_, rfl, ?_⟩⟩
    cases b with
    | false => exact iteT (e (fun z => by have := hb.mpr z; cases this) H1 s1)
    | true =>
    refine iteF ?_
    obtain ⟨ks, rfl, hc⟩ := hb.mp rfl
    have hS1 := s1.seq hS
    have hT1 := s1.seq hT
    refine ⟨_, rfl, 1, rfl, q, _, rfl, hT1, fun c nc => ?_⟩
    have s2 := s1.new (o := HO.lst (cutV (vis (toI ks)) (some 1) none)) nc
    have ec : (upd H1 c (HO.lst (cutV (vis (toI ks)) (some 1) none))) c = some (.lst (vis ((toI ks).drop 1))) := by
      rw [upd_same]; exact congrArg some (congrArg HO.lst (cut_from V.int (toI ks) 1))
    generalize upd H1 c (HO.lst (cutV (vis (toI ks)) (some 1) none)) = H2 at s2 ec ⊢
    refine ⟨_, rfl, p, _, rfl, .inl (s2.seq hS), sz (by simp), fun d nd => ?_⟩
    have s3 := s2.new (o := HO.lst [V.int ((vts ws).length : Nat)]) nd
    have ed : (upd H2 d (HO.lst [V.int ((vts ws).length : Nat)])) d = some (.lst [V.int ((vts ws).length : Nat)]) := upd_same
    have ec3 := kept ec nd (o := HO.lst [V.int ((vts ws).length : Nat)])
    generalize upd H2 d (HO.lst [V.int ((vts ws).length : Nat)]) = H3 at s3 ed ec3 ⊢
    refine ⟨c, d, _, _, rfl, rfl, ec3, ed, sz (by rw [List.length_map, List.length_drop, toI_length]; have := hc.len; rw [toI_length] at hle; simp; omega), fun g ng => ?_⟩
    have eg : vis ((toI ks).drop 1) ++ [V.int ((vts ws).length : Nat)] = vis (toI (ks.drop 1 ++ [ws.length])) := by rw [List.length_map]; exact ends_vis ks ws.length
    rw [eg]
    have s4 := s3.new (o := HO.lst (vis (toI (ks.drop 1 ++ [ws.length])))) ng
    have eg4 : (upd H3 g (HO.lst (vis (toI (ks.drop 1 ++ [ws.length]))))) g = some (.lst (vis (toI (ks.drop 1 ++ [ws.length])))) := upd_same
    generalize upd H3 g (HO.lst (vis (toI (ks.drop 1 ++ [ws.length])))) = H4 at s4 eg4 ⊢
    rw [toI_length] at hle
    refine ⟨_, rfl, q, _, rfl, .inl (s4.seq hT), ks.length, by rw [List.length_map, toI_length], by omega, by omega, fun D hD => ?_⟩
    refine lc_range (lo := 0) (n := ks.length) (fun i H' => Same H4 H' ∧ ∃ ts : List Addr, H' D = some (.lst (ts.map V.ref)) ∧ ts.length = i ∧ ∀ (k : Nat) (t : Addr) (p : Nat × Nat), ts[k]? = some t → (pairs ws.length ks)[k]? = some p → H' t = some (.tup [.int (p.1 : Nat), .int (p.2 : Nat)])) ?_ ?_ ?_
    · exact ⟨(Same.refl _).new hD, [], upd_same, rfl, fun k t p z => by simp at z⟩
    · rintro i H' hi ⟨s5, ts, eD, e1, e2⟩
      refine ⟨rfl, ?_⟩
      have e0 : (0 + (i : Int)) = (i : Int) := by omega
      have hp : i < (pairs ws.length ks).length := by rw [pairs_length]; exact hi
      obtain ⟨pp, hpp⟩ : ∃ pp, (pairs ws.length ks)[i]? = some pp := ⟨_, List.getElem?_eq_getElem hp⟩
      obtain ⟨g1, g2⟩ := pairs_get hpp
      have f1 : (vis (toI ks))[i]? = some (V.int (pp.1 : Nat)) := flat_get (toI_get g1)
      have f2 : (vis (toI (ks.drop 1 ++ [ws.length])))[i]? = some (V.int (pp.2 : Nat)) := flat_get (toI_get g2)
      refine ⟨_, rfl, _, rfl, q, _, _, _, rfl, rfl, s5.seq (s4.seq hT), at_of e0 f1, _, rfl, _, rfl, g, _, _, _, rfl, rfl, .of (s5 _ _ eg4), at_of e0 f2, sz (by simp), fun t nt => ?_⟩
      have st := s5.new (o := HO.tup [V.int (pp.1 : Nat), V.int (pp.2 : Nat)]) nt
      have et : (upd H' t (HO.tup [V.int (pp.1 : Nat), V.int (pp.2 : Nat)])) t = some (.tup [V.int (pp.1 : Nat), V.int (pp.2 : Nat)]) := upd_same
      have eD' := kept eD nt (o := HO.tup [V.int (pp.1 : Nat), V.int (pp.2 : Nat)])
      have e2' : ∀ (k : Nat) (t' : Addr) (p : Nat × Nat), ts[k]? = some t' → (pairs ws.length ks)[k]? = some p → (upd H' t (HO.tup [V.int (pp.1 : Nat), V.int (pp.2 : Nat)])) t' = some (.tup [.int (p.1 : Nat), .int (p.2 : Nat)]) := fun k t' p h1 h2 => kept (e2 k t' p h1 h2) nt
      generalize upd H' t (HO.tup [V.int (pp.1 : Nat), V.int (pp.2 : Nat)]) = H6 at st et eD' e2' ⊢
      refine ⟨_, eD', by rw [List.length_map]; exact szl (by omega), st.put hD, ts ++ [t], by rw [upd_same, List.map_append]; rfl, by simp [e1], fun k t' p h1 h2 => ?_⟩
      have hne : ∀ z, H6 z = some (.tup [V.int (p.1 : Nat), V.int (p.2 : Nat)]) → z ≠ D := fun z hz e => by subst e; rw [eD'] at hz; cases hz
      rcases Nat.lt_or_ge k ts.length with h | h
      · rw [List.getElem?_append_left h] at h1
        have := e2' k t' p h1 h2
        rw [upd_ne (hne _ this)]; exact this
      · rw [List.getElem?_append_right h] at h1
        have hk : k = i := by
          have := (List.getElem?_eq_some_iff.mp h1).1
          simp at this; omega
        subst hk
        rw [e1, Nat.sub_self] at h1
        cases h1
        rw [hpp] at h2
        cases h2
        rw [upd_ne (hne _ et)]; exact et
    · rintro H' ⟨s5, ts, eD, e1, e2⟩
      exact k ks H' D ts rfl hc (s4.trans s5) (s4.free hD) eD ⟨by rw [e1, pairs_length], e2⟩

def tb (xs : List Int) (e : Nat) : Int := xs.getD e 0
theorem tb_get {xs : List Int} {e : Nat} (h : e < xs.length) : (vis xs)[e]? = some (V.int (tb xs e)) := by
  unfold tb
  rw [List.getD_eq_getElem?_getD, List.getElem?_eq_getElem h]
  exact flat_get (List.getElem?_eq_getElem h)
def sp_best_end (K : PySem.W.Frag) : Sp := fun vs H Q _ => ∃ (p t : Addr) (ws : List (List Nat)) (n : Int) (xs : List Int) (a : Nat), vs = [.ref p, .int n, .ref t, .int a] ∧ SqL K H p (vts ws) ∧ SqL K H t (vis xs) ∧ Bw ws ∧ Wb n ∧ Ft ws n ∧ xs.length = ws.length + 1 ∧ a < ws.length ∧
  ∀ H' e, Same H H' → Best ws n (tb xs) a e → Q (.int (e : Nat)) H'
theorem ok_best_end (A : At K mg "best_end" ["words", "width", "table", "at"] st_best_end) (T : Bts mg) (G_line_price : Ok P w K mg base CX0 2 "line_price" ["words", "width", "begin", "end"] (sp_line_price K)) :
    Ok P w K mg base CX0 3 "best_end" ["words", "width", "table", "at"] (sp_best_end K) := by
  refine A.ok sc_best_end (fun vs H Q E h => ?_) (fun f cdv A outer s H vs Q E hr h => ?_)
  · obtain ⟨p, t, ws, n, xs, a, rfl, _⟩ := h; rfl
  · obtain ⟨p, t, ws, n, xs, a, rfl, hS, hT, hw, hn, ft, hl, ha, q⟩ := h
    refine ⟨_, (pss_cons (ps_set (i := 4) sc_best_end.nd rfl (Or.inl rfl) (pe_op op_add (pv 3) pe_int))
      (pss_cons (ps_set (i := 5) sc_best_end.nd rfl (Or.inl rfl) (pe_op op_add (pe_cd G_line_price (hr.mono (by decide)) pass0 (pa_cons (pv 0) (pa_cons (pv 1) (pa_cons (pv 3) (pa_cons (pv 4) pa_nil))))) (pe_ix (ix_listK K) (pv 2) (pv 4) (fun _ _ => rfl))))
      (pss_cons (ps_set (i := 6) sc_best_end.nd rfl (Or.inl rfl) (pe_callB call_len_str (by rfl) T.m_len PySem.boot_len (pa_cons (pe_ix (ix_listK K) (pv 0) (pv 3) (fun _ _ => rfl)) pa_nil)))
      (pss_cons (ps_for PassesOwn.never rfl (pi_range2 (by rfl) T.m_range (pa_cons (pe_op op_add (pv 3) pe_int) (pa_cons (pe_op op_add (pe_callB (call_lenK K) (by rfl) T.m_len PySem.boot_len (pa_cons (pv 0) pa_nil)) pe_int) pa_nil))) (pg_name (i := 7) sc_best_end.nd rfl (Or.inl rfl))
      (pss_cons (ps_set (i := 6) sc_best_end.nd rfl (Or.inl rfl) (pe_op op_add (pe_op op_add (pv 6) pe_int) (pe_callB call_len_str (by rfl) T.m_len PySem.boot_len (pa_cons (pe_ix (ix_listK K) (pv 0) (pe_op op_sub (pv 7) pe_int) (fun _ _ => rfl)) pa_nil))))
      (pss_cons (ps_if (pt_cmpR op_gt (pv 6) (pv 1) (nomark _)) (pss_one (ps_ret (pv 4))) pss_nil)
      (pss_cons (ps_set (i := 8) sc_best_end.nd rfl (Or.inl rfl) (pe_ix (ix_listK K) (pv 2) (pv 7) (fun _ _ => rfl)))
      (C8.pss_cut (ps_if (pt_cmpR op_lt (pv 7) (pe_callB (call_lenK K) (by rfl) T.m_len PySem.boot_len (pa_cons (pv 0) pa_nil)) (nomark _)) (pss_one (ps_set (i := 8) sc_best_end.nd rfl (Or.inl rfl) (pe_op op_add (pv 8) (pe_op op_mulW (pe_op op_sub (pv 1) (pv 6)) (pe_op op_sub (pv 1) (pv 6)))))) pss_nil)
      (pss_one (ps_if (pt_cmpR op_le (pv 8) (pv 5) (nomark _)) (pss_cons (ps_set (i := 4) sc_best_end.nd rfl (Or.inl rfl) (pv 7))
      (pss_one (ps_set (i := 5) sc_best_end.nd rfl (Or.inl rfl) (pv 8)))) pss_nil)))))))
      (pss_one (ps_ret (pv 4))))))), ?_⟩
    have hle := hw.le
    have one := ft.one ha
    have g1 := tb_get (xs := xs) (e := a + 1) (by omega)
    refine ⟨_, rfl, _, _, rfl, rfl, ?_⟩
    refine ⟨_, rfl, _, rfl, _, rfl, _, rfl, p, ws, n, a, a + 1, rfl, hS, hw, hn, by omega, by omega, fun H1 s1 => ?_⟩
    have hS1 := s1.seq hS
    have hT1 := s1.seq hT
    have ga : (vts ws)[a]? = some (vt ws[a]) := flat_get (List.getElem?_eq_getElem ha)
    refine ⟨_, rfl, _, rfl, t, _, _, _, rfl, rfl, hT1, at_of (show (a : Int) + 1 = ((a + 1 : Nat) : Int) from rfl) g1, _, _, rfl, rfl, ?_⟩
    refine ⟨_, rfl, _, rfl, p, _, _, _, rfl, rfl, hS1, at_of rfl ga, tx ws[a], rfl, by rw [tx_len]; exact sz (by have := hw.wl (List.getElem_mem ha); omega), ?_⟩
    rw [tx_len]
    refine ⟨_, rfl, _, _, rfl, rfl, _, rfl, p, _, rfl, .inl hS1, _, _, rfl, rfl, _, _, rfl, ⟨by omega, by omega, by rw [List.length_map]; omega, by rw [List.length_map]; omega⟩, ?_⟩
    refine for_range (n := (((vts ws).length : Int) + 1 - ((a : Int) + 2)).toNat) (fun i σ H' => H' = H1 ∧ ∃ (f : Nat) (y z : Option V), σ = [some (.ref p), some (.int n), some (.ref t), some (.int a), some (.int (f : Nat)), some (.int (pr ws n a f + tb xs f)), some (.int (size ws a (a + 1 + i) : Nat)), y, z] ∧
      a < f ∧ f ≤ a + 1 + i ∧ a + 1 + i ≤ ws.length ∧ ((size ws a (a + 1 + i) : Nat) : Int) ≤ n ∧
      ∀ e', a < e' → e' ≤ a + 1 + i → pr ws n a f + tb xs f ≤ pr ws n a e' + tb xs e' ∧ (pr ws n a f + tb xs f = pr ws n a e' + tb xs e' → e' ≤ f)) ?_ ?_ ?_
    · refine ⟨rfl, a + 1, none, none, by rw [Nat.add_zero, size_one ws ha]; rfl, by omega, by omega, by omega, one, fun e' h1 h2 => ?_⟩
      have : e' = a + 1 := by omega
      subst this
      exact ⟨Int.le_refl _, fun _ => Nat.le_refl _⟩
    · rintro i σ H' hi ⟨rfl, f, y, z, rfl, f1, f2, f3, f4, f5⟩
      rw [List.length_map] at hi
      have hc : a + 1 + i < ws.length := by omega
      have gc : (vts ws)[a + 1 + i]? = some (vt ws[a + 1 + i]) := flat_get (List.getElem?_eq_getElem hc)
      have e0 : ((a : Int) + 2 + (i : Int)) - 1 = ((a + 1 + i : Nat) : Int) := by omega
      have e1 : (a : Int) + 2 + (i : Int) = ((a + 1 + i + 1 : Nat) : Int) := by omega
      have gt := tb_get (xs := xs) (e := a + 1 + i + 1) (by omega)
      have es : ((size ws a (a + 1 + i) : Nat) : Int) + 1 + (ws[a + 1 + i].length : Nat) = ((size ws a (a + 1 + (i + 1)) : Nat) : Int) := by
        have := size_snoc ws (show a < a + 1 + i by omega) hc
        rw [show a + 1 + (i + 1) = a + 1 + i + 1 by omega, this]; omega
      refine ⟨_, rfl, _, _, rfl, rfl, _, rfl, _, rfl, _, _, rfl, rfl, p, _, _, _, rfl, rfl, hS1, at_of e0 gc, tx ws[a + 1 + i], rfl, by rw [tx_len]; exact sz (by have := hw.wl (List.getElem_mem hc); omega), ?_⟩
      rw [tx_len]
      refine rI0_at (v := .int (size ws a (a + 1 + (i + 1)) : Nat)) (congrArg V.int es) ?_
      refine ⟨_, rfl, _, rfl, _, _, rfl, rfl, _, rfl, tst (c := n < (size ws a (a + 1 + (i + 1)) : Nat)) rfl (fun h1 => ?_) (fun h1 => ?_)⟩
      · refine ⟨_, rfl, q _ f s1 ⟨f1, by omega, ?_, fun e' g1 g2 g3 => f5 e' g1 ?_⟩⟩
        · have := size_mono (ws := ws) (Nat.le_refl a) f1 f2 f3
          omega
        · rcases Nat.lt_or_ge (a + 1 + i) e' with l | l
          · have := size_mono (ws := ws) (Nat.le_refl a) (show a < a + 1 + (i + 1) by omega) (show a + 1 + (i + 1) ≤ e' by omega) g2
            omega
          · exact l
      · have hsz := hw.size a (a + 1 + (i + 1))
        refine ⟨_, rfl, _, rfl, t, _, _, _, rfl, rfl, hT1, at_of e1 gt, ?_⟩
        refine ⟨fun σ H2 => H2 = H' ∧ σ = [some (.ref p), some (.int n), some (.ref t), some (.int a), some (.int (f : Nat)), some (.int (pr ws n a f + tb xs f)), some (.int (size ws a (a + 1 + (i + 1)) : Nat)), some (.int (a + 1 + (i + 1) : Nat)), some (.int (pr ws n a (a + 1 + (i + 1)) + tb xs (a + 1 + (i + 1))))], ?_, ?_⟩
        · refine ⟨_, rfl, _, rfl, p, _, rfl, .inl hS1, _, _, rfl, rfl, _, rfl, tst (c := a + 1 + (i + 1) < ws.length) (by rw [List.length_map]; simp only [decide_eq_decide]; omega) (fun h2 => ?_) (fun h2 => ?_)⟩
          · refine ⟨_, rfl, _, rfl, _, rfl, _, _, rfl, rfl, _, rfl, _, rfl, _, _, rfl, rfl, _, _, rfl, rfl, hn.mul (by omega), _, _, rfl, rfl, rfl, ?_⟩
            rw [pr_gap (show ¬ a + 1 + (i + 1) = ws.length by omega)]
            have ex : tb xs (a + 1 + i + 1) + (n - (size ws a (a + 1 + (i + 1)) : Nat)) * (n - (size ws a (a + 1 + (i + 1)) : Nat)) = (n - (size ws a (a + 1 + (i + 1)) : Nat)) * (n - (size ws a (a + 1 + (i + 1)) : Nat)) + tb xs (a + 1 + (i + 1)) := Int.add_comm _ _
            have e7 : (a : Int) + 2 + (i : Int) = ((a + 1 + (i + 1) : Nat) : Int) := by omega
            rw [← ex, ← e7]
            rfl
          · refine ⟨rfl, ?_⟩
            rw [pr_last (show a + 1 + (i + 1) = ws.length by omega), Int.zero_add]
            have e7 : (a : Int) + 2 + (i : Int) = ((a + 1 + (i + 1) : Nat) : Int) := by omega
            rw [← e7]
            rfl
        rintro σ H2 ⟨rfl, rfl⟩
        refine ⟨_, rfl, _, rfl, _, _, rfl, rfl, _, rfl, tst (c := pr ws n a (a + 1 + (i + 1)) + tb xs (a + 1 + (i + 1)) ≤ pr ws n a f + tb xs f) rfl (fun h2 => ?_) (fun h2 => ?_)⟩
        · refine ⟨_, rfl, _, rfl, rfl, a + 1 + (i + 1), _, _, rfl, by omega, Nat.le_refl _, by omega, by omega, fun e' g1 g2 => ?_⟩
          rcases Nat.lt_or_ge (a + 1 + i) e' with l | l
          · have : e' = a + 1 + (i + 1) := by omega
            subst this
            exact ⟨Int.le_refl _, fun _ => Nat.le_refl _⟩
          · have := f5 e' g1 l
            exact ⟨by omega, fun _ => by omega⟩
        · refine ⟨rfl, f, _, _, rfl, f1, by omega, by omega, by omega, fun e' g1 g2 => ?_⟩
          rcases Nat.lt_or_ge (a + 1 + i) e' with l | l
          · have : e' = a + 1 + (i + 1) := by omega
            subst this
            exact ⟨by omega, fun z => by omega⟩
          · exact f5 e' g1 l
    · rintro σ H' ⟨rfl, f, y, z, rfl, f1, f2, f3, f4, f5⟩
      rw [List.length_map] at f2 f3 f4 f5
      refine ⟨_, rfl, q _ f s1 ⟨f1, by omega, ?_, fun e' g1 g2 g3 => f5 e' g1 (by omega)⟩⟩
      have := size_mono (ws := ws) (Nat.le_refl a) f1 f2 f3
      omega

def TabF (ws : List (List Nat)) (wd : Int) (T : Nat → Int) (from_ : Nat) : Prop := T ws.length = 0 ∧ ∀ a, from_ ≤ a → a < ws.length → ∃ e, Best ws wd T a e ∧ T a = pr ws wd a e + T e
theorem TabF.tab {ws : List (List Nat)} {wd : Int} {T : Nat → Int} (h : TabF ws wd T 0) : Tab ws wd T := ⟨h.1, fun a ha => h.2 a (Nat.zero_le _) ha⟩
theorem Best.congr {ws : List (List Nat)} {wd : Int} {T T' : Nat → Int} {a e : Nat} (h : Best ws wd T a e) (ht : ∀ k, a < k → T k = T' k) : Best ws wd T' a e :=
  ⟨h.1, h.2.1, h.2.2.1, fun e' h1 h2 h3 => by rw [← ht e h.1, ← ht e' h1]; exact h.2.2.2 e' h1 h2 h3⟩
theorem tb_set {xs : List Int} {i : Nat} {v : Int} (k : Nat) : tb (xs.set i v) k = if i = k ∧ i < xs.length then v else tb xs k := by
  unfold tb
  rw [List.getD_eq_getElem?_getD, List.getD_eq_getElem?_getD, List.getElem?_set]
  by_cases h : i = k
  · subst h
    by_cases h2 : i < xs.length
    · rw [if_pos rfl, if_pos h2, if_pos ⟨rfl, h2⟩]; rfl
    · rw [if_pos rfl, if_neg h2, if_neg (fun z => h2 z.2), List.getElem?_eq_none (by omega)]
  · rw [if_neg h, if_neg (fun z => h z.1)]
def sp_grown (K : PySem.W.Frag) : Sp := fun vs H Q _ => ∃ (p q : Addr) (ws : List (List Nat)) (n : Int) (tl : List Int), vs = [.ref p, .int n, .ref q] ∧ SqL K H p (vts ws) ∧ H q = some (.lst (vis tl)) ∧ Bw ws ∧ Wb n ∧ Ft ws n ∧ 1 ≤ tl.length ∧ tl.length ≤ ws.length + 1 ∧
  TabF ws n (tb (List.replicate (ws.length + 1 - tl.length) 0 ++ tl)) (ws.length + 1 - tl.length) ∧
  ∀ H' o xs, Same H H' → H o = none → H' o = some (.lst (vis xs)) → xs.length = ws.length + 1 → Tab ws n (tb xs) → xs.drop (ws.length + 1 - tl.length) = tl → Q (.ref o) H'
theorem ok_grown (A : At K mg "grown" ["words", "width", "tail"] st_grown) (T : Bts mg) (G_line_price : Ok P w K mg base CX0 2 "line_price" ["words", "width", "begin", "end"] (sp_line_price K))
    (G_best_end : Ok P w K mg base CX0 3 "best_end" ["words", "width", "table", "at"] (sp_best_end K)) :
    Ok P w K mg base CX0 4 "grown" ["words", "width", "tail"] (sp_grown K) := by
  refine A.ok sc_grown (fun vs H Q E h => ?_) (fun f cdv A outer s H vs Q E hr h => ?_)
  · obtain ⟨p, q, ws, n, tl, rfl, _⟩ := h; rfl
  · obtain ⟨p, q, ws, n, tl, rfl, hS, eq, hw, hn, ft, t1, t2, tf, k⟩ := h
    refine ⟨_, (pss_cons (ps_set (i := 3) sc_grown.nd rfl (Or.inl rfl) (pe_op op_sub (pe_op op_add (pe_callB (call_lenK K) (by rfl) T.m_len PySem.boot_len (pa_cons (pv 0) pa_nil)) pe_int) (pe_callB (call_lenK K) (by rfl) T.m_len PySem.boot_len (pa_cons (pv 2) pa_nil))))
      (pss_cons (ps_set (i := 4) sc_grown.nd rfl (Or.inl rfl) (pe_op op_cat (pe_lc (own := [("k", 7)]) (g := gName 7) (tt := tYes) rfl sc_grown.nd (pi_range1 (by rfl) T.m_range (pa_cons (pv 3) pa_nil)) (blkOk_by (own := [("k", 7)]) (N := N_grown) (sc := defScope st_grown) (by decide +kernel)) (fun _ _ _ _ _ => pg_name (i := 7) sc_grown.nd rfl (Or.inl rfl)) (fun _ _ _ _ _ => pts_nil) (fun _ _ _ _ _ => pe_int)) (pv 2)))
      (pss_cons (ps_for PassesOwn.never rfl (pi_revR (by rfl) T.m_reversed (prg_1 (by rfl) T.m_range (pv 3))) (pg_name (i := 5) sc_grown.nd rfl (Or.inl rfl))
      (pss_cons (ps_set (i := 6) sc_grown.nd rfl (Or.inl rfl) (pe_cd G_best_end (hr.mono (by decide)) pass0 (pa_cons (pv 0) (pa_cons (pv 1) (pa_cons (pv 4) (pa_cons (pv 5) pa_nil))))))
      (pss_one (ps_asg (pe_op op_add (pe_cd G_line_price (hr.mono (by decide)) pass0 (pa_cons (pv 0) (pa_cons (pv 1) (pa_cons (pv 5) (pa_cons (pv 6) pa_nil))))) (pe_ix (ix_listK K) (pv 4) (pv 6) (fun _ _ => rfl))) (pg_sub (pv 4) (pv 5) set_list)))))
      (pss_one (ps_ret (pv 4)))))), ?_⟩
    have hle := hw.le
    obtain ⟨c, hc⟩ : ∃ c, ws.length + 1 - tl.length = c := ⟨_, rfl⟩
    rw [hc] at tf
    have ec : ((vts ws).length : Int) + 1 - ((vis tl).length : Nat) = (c : Int) := by rw [List.length_map, List.length_map]; omega
    refine ⟨_, rfl, p, _, rfl, .inl hS, _, _, rfl, rfl, _, rfl, q, _, rfl, .inl (.of eq), rI0_at (v := .int (c : Nat)) (congrArg V.int ec) ?_⟩
    refine ⟨_, rfl, c, rfl, by omega, by omega, fun D hD => ?_⟩
    refine lc_range (lo := 0) (n := c) (fun i H' => Same H H' ∧ H' D = some (.lst (vis (List.replicate i 0)))) ?_ ?_ ?_
    · exact ⟨(Same.refl H).new hD, upd_same⟩
    · rintro i H' hi ⟨s1, eD⟩
      refine ⟨rfl, ?_⟩
      refine ⟨_, eD, by rw [List.length_map, List.length_replicate]; exact szl (by omega), s1.put hD, ?_⟩
      rw [upd_same, List.replicate_succ', vis_app]
    rintro H1 ⟨s1, eD⟩
    refine ⟨_, rfl, D, q, _, _, rfl, rfl, eD, s1 _ _ eq, sz (by rw [List.length_map, List.length_map, List.length_replicate]; omega), fun o no => ?_⟩
    have ev : vis (List.replicate c (0 : Int)) ++ vis tl = vis (List.replicate c 0 ++ tl) := List.map_append.symm
    rw [ev]
    have s2 := s1.new (o := HO.lst (vis (List.replicate c 0 ++ tl))) no
    have eo : (upd H1 o (HO.lst (vis (List.replicate c 0 ++ tl)))) o = some (.lst (vis (List.replicate c 0 ++ tl))) := upd_same
    have no' := s1.free no
    generalize upd H1 o (HO.lst (vis (List.replicate c 0 ++ tl))) = H2 at s2 eo ⊢
    refine ⟨_, rfl, c, rfl, by decide, by decide, by omega, by omega, ?_⟩
    have hcn : (((c : Int) - 0).toNat) = c := by omega
    refine for_rangeC (n := ((c : Int) - 0).toNat) (fun i σ H' => Same H H' ∧ ∃ (xs : List Int) (y z u : Option V), σ = [some (.ref p), some (.int n), some (.ref q), some (.int c), some (.ref o), y, z, u] ∧ H' o = some (.lst (vis xs)) ∧ xs.length = ws.length + 1 ∧
      TabF ws n (tb xs) (c - i) ∧ xs.drop c = tl) ?_ ?_ ?_
    · refine ⟨s2, _, none, none, none, rfl, eo, by rw [List.length_append, List.length_replicate]; omega, tf, ?_⟩
      rw [List.drop_append, List.length_replicate, Nat.sub_self, List.drop_of_length_le (by rw [List.length_replicate]; exact Nat.le_refl _)]
      simp
    · rintro i σ H' hi ⟨s3, xs, y, z, u, rfl, eo3, hl, hf, hd⟩
      rw [hcn] at hi
      obtain ⟨a, ha⟩ : ∃ a, c - i - 1 = a := ⟨_, rfl⟩
      have haw : a < ws.length := by omega
      have e0 : (0 : Int) + ((((c : Int) - 0).toNat : Nat) : Int) - 1 + (i : Nat) * (-1 : Int) = (a : Int) := by omega
      refine (show gName 5 (V.int ((0 : Int) + ((((c : Int) - 0).toNat : Nat) : Int) - 1 + (i : Nat) * (-1 : Int))) _ _ _ from ?_)
      rw [e0]
      refine ⟨_, rfl, _, rfl, _, rfl, _, rfl, p, o, ws, n, xs, a, rfl, s3.seq hS, .of eo3, hw, hn, ft, hl, haw, fun H4 e s4 hb => ?_⟩
      have eo4 := s4 _ _ eo3
      have s34 := s3.trans s4
      refine ⟨_, rfl, _, rfl, _, rfl, _, rfl, p, ws, n, a, e, rfl, s34.seq hS, hw, hn, Nat.le_of_lt hb.1, hb.2.1, fun H5 s5 => ?_⟩
      have eo5 := s5 _ _ eo4
      have s35 := s34.trans s5
      have hex : ixN (vis xs).length (a : Int) = some a := by
        unfold ixN
        rw [if_pos (by omega), if_pos (by rw [List.length_map]; omega)]; simp
      refine ⟨_, rfl, _, rfl, o, _, _, _, rfl, rfl, .of eo5, atI_nat (tb_get (by have := hb.2.1; omega)), _, _, rfl, rfl, _, rfl, _, rfl, o, _, _, a, rfl, rfl, eo5, hex, ?_⟩
      refine ⟨s35.put no', xs.set a (pr ws n a e + tb xs e), some (.int a), some (.int e), u, rfl, ?_, by rw [List.length_set]; exact hl, ?_, ?_⟩
      · rw [upd_same]; exact congrArg some (congrArg HO.lst List.map_set.symm)
      · refine ⟨?_, fun a' h1 h2 => ?_⟩
        · rw [tb_set, if_neg (by omega)]; exact hf.1
        · have hT : ∀ k, a' < k → tb xs k = tb (xs.set a (pr ws n a e + tb xs e)) k := fun k hk => by rw [tb_set, if_neg (by omega)]
          rcases Nat.lt_or_ge a a' with h | h
          · obtain ⟨e2, g1, g2⟩ := hf.2 a' (by omega) h2
            refine ⟨e2, g1.congr hT, ?_⟩
            rw [← hT e2 g1.1, tb_set, if_neg (by omega)]; exact g2
          · have : a' = a := by omega
            subst this
            refine ⟨e, hb.congr hT, ?_⟩
            rw [← hT e hb.1, tb_set, if_pos ⟨rfl, by omega⟩]
      · rw [List.drop_set, if_pos (by omega)]; exact hd
    · rintro σ H' ⟨s3, xs, y, z, u, rfl, eo3, hl, hf, hd⟩
      rw [hcn, Nat.sub_self] at hf
      exact ⟨_, rfl, k H' o xs s3 no' eo3 hl hf.tab (by rw [hc]; exact hd)⟩

def sp_table_of (K : PySem.W.Frag) (ea : EA) : Sp := fun vs H Q E => ∃ (p : Addr) (ws : List (List Nat)) (n : Int), vs = [.ref p, .int n] ∧ SqL K H p (vts ws) ∧ Bw ws ∧ Wb n ∧
  (n < 1 → E (.ref ea.nw) none H) ∧ (1 ≤ n → n < (longest ws : Nat) → E (.ref ea.lw) none H) ∧
  (Ft ws n → ∀ H' o xs, Same H H' → H o = none → H' o = some (.lst (vis xs)) → xs.length = ws.length + 1 → Tab ws n (tb xs) → Q (.ref o) H')
theorem ok_table_of {ea : EA} (A : At K mg "table_of" ["words", "width"] st_table_of) (T : Bts mg) (X : Xs K mg ea) (G_need_fits : Ok P w K mg base (CXn P w) 3 "need_fits" ["words", "width"] (sp_need_fits K ea))
    (G_grown : Ok P w K mg base CX0 4 "grown" ["words", "width", "tail"] (sp_grown K)) :
    Ok P w K mg base (CXn P w) 5 "table_of" ["words", "width"] (sp_table_of K ea) := by
  refine A.okX sc_table_of (fun vs H Q E h => ?_) (fun f cdv A outer s H vs Q E hr h => ?_)
  · obtain ⟨p, ws, n, rfl, _⟩ := h; rfl
  · obtain ⟨p, ws, n, rfl, hS, hw, hn, e1, e2, q⟩ := h
    refine ⟨_, (pss_cons (ps_expr (pe_cd G_need_fits (hr.mono (by decide)) passR (pa_cons (pv 0) (pa_cons (pv 1) pa_nil))))
      (PSs.nox (pss_one (ps_ret (pe_cd G_grown (hr.mono (by decide)) pass0 (pa_cons (pv 0) (pa_cons (pv 1) (pa_cons (pe_lst (pa_cons pe_int pa_nil)) pa_nil)))))))), ?_⟩
    refine ⟨_, rfl, _, rfl, p, ws, n, rfl, hS, hw, e1, e2, fun ft => ?_⟩
    refine ⟨_, rfl, _, rfl, sz (by simp), fun d nd => ?_⟩
    have s1 := (Same.refl H).new (o := HO.lst [V.int 0]) nd
    have hr0 : (tb (List.replicate ws.length 0 ++ [0])) ws.length = 0 := by
      unfold tb
      rw [List.getD_eq_getElem?_getD, List.getElem?_append_right (by rw [List.length_replicate]; exact Nat.le_refl _), List.length_replicate, Nat.sub_self]; rfl
    refine ⟨p, d, ws, n, [0], rfl, s1.seq hS, upd_same, hw, hn, ft, Nat.le_refl _, by simp, ⟨?_, fun a h1 h2 => ?_⟩, fun H' o xs s' no eo hl ht _ => q ft H' o xs (s1.trans s') (s1.free no) eo hl ht⟩
    · exact hr0
    · simp at h1; omega

def sp_starts_by (K : PySem.W.Frag) : Sp := fun vs H Q _ => ∃ (p t : Addr) (ws : List (List Nat)) (n : Int) (xs : List Int), vs = [.ref p, .int n, .ref t] ∧ SqL K H p (vts ws) ∧ SqL K H t (vis xs) ∧ Bw ws ∧ Wb n ∧ Ft ws n ∧ xs.length = ws.length + 1 ∧
  ∀ H' o ks, Same H H' → H o = none → H' o = some (.lst (vis (toI ks))) → Bc ws n (tb xs) 0 ks → Q (.ref o) H'
theorem ok_starts_by (A : At K mg "starts_by" ["words", "width", "table"] st_starts_by) (T : Bts mg) (G_best_end : Ok P w K mg base CX0 3 "best_end" ["words", "width", "table", "at"] (sp_best_end K)) :
    Ok P w K mg base CX0 4 "starts_by" ["words", "width", "table"] (sp_starts_by K) := by
  refine A.ok sc_starts_by (fun vs H Q E h => ?_) (fun f cdv A outer s H vs Q E hr h => ?_)
  · obtain ⟨p, t, ws, n, xs, rfl, _⟩ := h; rfl
  · obtain ⟨p, t, ws, n, xs, rfl, hS, hT, hw, hn, ft, hl, q⟩ := h
    refine ⟨_, (pss_cons (ps_set (i := 3) sc_starts_by.nd rfl (Or.inl rfl) (pe_lst pa_nil))
      (pss_cons (ps_set (i := 4) sc_starts_by.nd rfl (Or.inl rfl) pe_int)
      (pss_cons (ps_while PassesOwn.never (pt_cmpR op_lt (pv 4) (pe_callB (call_lenK K) (by rfl) T.m_len PySem.boot_len (pa_cons (pv 0) pa_nil)) (nomark _))
      (pss_cons (ps_expr (pe_bm PySem.F.plainAttrs_list PySem.F.slot_list_append PySem.F.type_list_append mt_append (pv 3) (pa_cons (pv 4) pa_nil)))
      (pss_one (ps_set (i := 4) sc_starts_by.nd rfl (Or.inl rfl) (pe_cd G_best_end (hr.mono (by decide)) pass0 (pa_cons (pv 0) (pa_cons (pv 1) (pa_cons (pv 2) (pa_cons (pv 4) pa_nil)))))))))
      (pss_one (ps_ret (pv 3)))))), ?_⟩
    have hle := hw.le
    refine ⟨sz (by simp), fun D hD => ?_⟩
    have s1 := (Same.refl H).new (o := HO.lst []) hD
    have eD : (upd H D (HO.lst [])) D = some (.lst (vis (toI []))) := upd_same
    generalize upd H D (HO.lst []) = H1 at s1 eD ⊢
    refine while_N (fun σ H' => Same H H' ∧ ∃ (x : Nat) (ks : List Nat), σ = [some (.ref p), some (.int n), some (.ref t), some (.ref D), some (.int x)] ∧ H' D = some (.lst (vis (toI ks))) ∧ x ≤ ws.length ∧ ks.length ≤ x ∧
        ∀ r, Bc ws n (tb xs) x r → Bc ws n (tb xs) 0 (ks ++ r)) (fun σ _ => match σ with | [_, _, _, _, some (.int a)] => ((ws.length : Int) - a).toNat | _ => 0) ?_ ?_
    · exact ⟨s1, 0, [], rfl, eD, Nat.zero_le _, Nat.le_refl _, fun r h => h⟩
    rintro σ H' ⟨s2, x, ks, rfl, eD2, hx, hkl, hk⟩
    refine ⟨_, rfl, _, rfl, p, _, rfl, .inl (s2.seq hS), _, _, rfl, rfl, _, rfl, tst (c := x < ws.length) (by rw [List.length_map]; simp only [decide_eq_decide]; omega) (fun h1 => ?_) (fun h1 => ?_)⟩
    · refine ⟨fun σ' H' => (Same H H' ∧ ∃ (x : Nat) (ks : List Nat), σ' = [some (.ref p), some (.int n), some (.ref t), some (.ref D), some (.int x)] ∧ H' D = some (.lst (vis (toI ks))) ∧ x ≤ ws.length ∧ ks.length ≤ x ∧
        ∀ r, Bc ws n (tb xs) x r → Bc ws n (tb xs) 0 (ks ++ r)) ∧ (match σ' with | [_, _, _, _, some (.int a)] => ((ws.length : Int) - a).toNat | _ => 0) < ((ws.length : Int) - (x : Int)).toNat, fun σ' H' ⟨h, h2⟩ => ⟨_, h2, rfl, h⟩, ?_⟩
      refine ⟨_, rfl, .inl ⟨rfl, _, .of eD2⟩, _, rfl, D, _, _, rfl, rfl, eD2, by rw [List.length_map, toI_length]; exact sz (by omega), ?_⟩
      have s3 := s2.put (o := HO.lst (vis (toI ks) ++ [V.int (x : Nat)])) hD
      have eD3 : (upd H' D (HO.lst (vis (toI ks) ++ [V.int (x : Nat)]))) D = some (.lst (vis (toI (ks ++ [x])))) := by
        rw [upd_same, toI_app]; exact congrArg some (congrArg HO.lst (vis_app _ _).symm)
      generalize upd H' D (HO.lst (vis (toI ks) ++ [V.int (x : Nat)])) = H3 at s3 eD3 ⊢
      refine ⟨_, rfl, _, rfl, _, rfl, _, rfl, p, t, ws, n, xs, x, rfl, s3.seq hS, s3.seq hT, hw, hn, ft, hl, h1, fun H4 e s4 hb => ?_⟩
      refine ⟨⟨s3.trans s4, e, ks ++ [x], rfl, s4 _ _ eD3, hb.2.1, by rw [List.length_append, List.length_singleton]; have := hb.1; omega, fun r hr => ?_⟩, ?_⟩
      · rw [List.append_assoc]; exact hk _ ⟨rfl, e, hb, hr⟩
      · show ((ws.length : Int) - (e : Int)).toNat < ((ws.length : Int) - (x : Int)).toNat
        have := hb.1
        omega
    · refine ⟨_, rfl, q H' D ks s2 hD eD2 ?_⟩
      have := hk [] (show x = ws.length by omega)
      rw [List.append_nil] at this; exact this

def sp_best_starts (K : PySem.W.Frag) (ea : EA) : Sp := fun vs H Q E => ∃ (p : Addr) (ws : List (List Nat)) (n : Int), vs = [.ref p, .int n] ∧ SqL K H p (vts ws) ∧ Bw ws ∧ Wb n ∧
  (n < 1 → E (.ref ea.nw) none H) ∧ (1 ≤ n → n < (longest ws : Nat) → E (.ref ea.lw) none H) ∧
  (Ft ws n → ∀ H' o xs ks, Same H H' → H o = none → H' o = some (.lst (vis (toI ks))) → Tab ws n (tb xs) → Bc ws n (tb xs) 0 ks → Q (.ref o) H')
theorem ok_best_starts {ea : EA} (A : At K mg "best_starts" ["words", "width"] st_best_starts) (T : Bts mg) (X : Xs K mg ea) (G_table_of : Ok P w K mg base (CXn P w) 5 "table_of" ["words", "width"] (sp_table_of K ea))
    (G_starts_by : Ok P w K mg base CX0 4 "starts_by" ["words", "width", "table"] (sp_starts_by K)) :
    Ok P w K mg base (CXn P w) 6 "best_starts" ["words", "width"] (sp_best_starts K ea) := by
  refine A.okX sc_best_starts (fun vs H Q E h => ?_) (fun f cdv A outer s H vs Q E hr h => ?_)
  · obtain ⟨p, ws, n, rfl, _⟩ := h; rfl
  · obtain ⟨p, ws, n, rfl, hS, hw, hn, e1, e2, q⟩ := h
    refine ⟨_, (pss_one (ps_ret (pe_cd G_starts_by (hr.mono (by decide)) pass0 (pa_cons (pv 0) (pa_cons (pv 1) (pa_cons (pe_cd G_table_of (hr.mono (by decide)) passR (pa_cons (pv 0) (pa_cons (pv 1) pa_nil))) pa_nil)))))), ?_⟩
    refine ⟨_, rfl, _, rfl, _, rfl, _, rfl, p, ws, n, rfl, hS, hw, hn, e1, e2, fun ft H1 t xs s1 nt et hl ht => ?_⟩
    exact ⟨p, t, ws, n, xs, rfl, s1.seq hS, .of et, hw, hn, ft, hl, fun H' o ks s2 no eo hb => q ft H' o xs ks (s1.trans s2) (s1.free no) eo ht hb⟩

def sp_words_of : Sp := fun vs H Q _ => ∃ l : List Nat, vs = [vt l] ∧ l.length ≤ 1000000 ∧
  ∀ H' p, Same H H' → H p = none → H' p = some (.lst (vts (wcut [] l))) → Q (.ref p) H'
theorem ok_words_of (A : At K mg "words_of" ["text"] st_words_of) (T : Bts mg) : Ok P w K mg base CX0 1 "words_of" ["text"] sp_words_of := by
  refine A.ok sc_words_of (fun vs H Q E h => ?_) (fun f cdv A outer s H vs Q E hr h => ?_)
  · obtain ⟨l, rfl, _⟩ := h; rfl
  · obtain ⟨l, rfl, hl, q⟩ := h
    refine ⟨_, (pss_cons (ps_set (i := 1) sc_words_of.nd rfl (Or.inl rfl) (pe_lst pa_nil))
      (pss_cons (ps_set (i := 2) sc_words_of.nd rfl (Or.inl rfl) pe_str)
      (pss_cons (ps_for PassesOwn.never rfl (pi_str (pe_op op_add_str (pv 0) pe_str)) (pg_name (i := 3) sc_words_of.nd rfl (Or.inl rfl))
      (pss_one (ps_if (PW.pt (pw_and (pt_cmpR op_ne (pv 3) pe_str (nomark _)) (pw_and1 (pt_cmpR op_ne (pv 3) pe_str (nomark _))))) (pss_one (ps_set (i := 2) sc_words_of.nd rfl (Or.inl rfl) (pe_op op_add_str (pv 2) (pv 3)))) (pss_one (ps_if (pt_cmpR op_ne (pv 2) pe_str (nomark _)) (pss_cons (ps_expr (pe_bm PySem.F.plainAttrs_list PySem.F.slot_list_append PySem.F.type_list_append mt_append (pv 1) (pa_cons (pv 2) pa_nil)))
      (pss_one (ps_set (i := 2) sc_words_of.nd rfl (Or.inl rfl) pe_str))) pss_nil)))))
      (pss_one (ps_ret (pv 1)))))), ?_⟩
    refine ⟨Nat.zero_le _, fun o no => ?_⟩
    refine ⟨_, rfl, _, _, rfl, rfl, ?_, tx (l ++ [32]), ?_, ?_⟩
    · rw [lit_sp, tx_len, tx_len]; exact sz (by simp; omega)
    · rw [lit_sp, tx_app]
    refine for_txt (l := l ++ [32]) (fun d r σ H3 => ∃ ws h y, σ = [some (vt l), some (.ref o), some (vt h), y] ∧ Same H H3 ∧
      H3 o = some (.lst (vts ws)) ∧ ws.length + r.length ≤ l.length + 2 ∧ h.length + r.length ≤ l.length + 1 ∧ ws ++ wcut h r = wcut [] l ∧ (r = [] → h = [])) ?_ ?_ ?_
    · refine ⟨[], [], none, ?_, (Same.refl H).new no, upd_same, by simp, by simp, by rw [wcut_blank]; rfl, fun _ => rfl⟩
      rw [lit_nil]; rfl
    · rintro d c r σ H3 e ⟨ws, h, y, rfl, sm, eo, e1, e2, ew, ez⟩
      have o' : H o = none := no
      simp only [List.length_cons] at e1 e2
      -- sign != " " and sign != "\n"
      refine ⟨_, rfl, rfl, _, rfl, tsn (c := c = 32) (ne_sg lit_sp) (fun n1 => ?_) (fun n1 => ?_)⟩
      · refine ⟨_, rfl, rfl, _, rfl, tsn (c := c = 10) (ne_sg lit_nl) (fun n2 => ?_) (fun n2 => ?_)⟩
        · refine ⟨_, rfl, _, rfl, _, _, rfl, rfl, ?_, ws, h ++ [c], some (vt [c]), ?_, sm, eo, by omega, by simp; omega, ?_, fun z => ?_⟩
          · rw [tx_len, tx_len]; exact sz (by simp; omega)
          · rw [tx_app]; rfl
          · rw [← ew, wcut_s (by omega)]
          · subst z; exact absurd (last_eq e).symm n1
        · refine ⟨_, rfl, rfl, _, rfl, tsn (c := h = []) (ne_vt lit_nil) (fun n3 => ?_) (fun n3 => ?_)⟩
          · refine ⟨_, rfl, .inl ⟨rfl, _, .inl (.inl eo)⟩, _, rfl, o, _, _, rfl, rfl, eo, ?_, ?_⟩
            · rw [List.length_map]; exact szl (by omega)
            · refine ⟨ws ++ [h], [], some (vt [c]), ?_, sm.put no, ?_, by simp; omega, by simp; omega, ?_, fun _ => rfl⟩
              · rw [lit_nil]; rfl
              · rw [upd_same, vts_app]
              · rw [← ew, wcut_w n3 (by omega)]; simp
          · subst n3
            refine ⟨ws, [], some (vt [c]), rfl, sm, eo, by omega, by simp; omega, ?_, fun _ => rfl⟩
            rw [← ew, wcut_b (by omega)]
      · refine ⟨_, rfl, rfl, _, rfl, tsn (c := h = []) (ne_vt lit_nil) (fun n3 => ?_) (fun n3 => ?_)⟩
        · refine ⟨_, rfl, .inl ⟨rfl, _, .inl (.inl eo)⟩, _, rfl, o, _, _, rfl, rfl, eo, ?_, ?_⟩
          · rw [List.length_map]; exact szl (by omega)
          · refine ⟨ws ++ [h], [], some (vt [c]), ?_, sm.put no, ?_, by simp; omega, by simp; omega, ?_, fun _ => rfl⟩
            · rw [lit_nil]; rfl
            · rw [upd_same, vts_app]
            · rw [← ew, wcut_w n3 (by omega)]; simp
        · subst n3
          refine ⟨ws, [], some (vt [c]), rfl, sm, eo, by omega, by simp; omega, ?_, fun _ => rfl⟩
          rw [← ew, wcut_b (by omega)]
    · rintro σ H3 ⟨ws, h, y, rfl, sm, eo, e1, e2, ew, ez⟩
      rw [ez rfl] at ew
      rw [show wcut [] [] = [] from rfl, List.append_nil] at ew
      exact ⟨_, rfl, q H3 o sm no (by rw [eo, ew])⟩

def sp_paragraphs_of : Sp := fun vs H Q _ => ∃ l : List Nat, vs = [vt l] ∧ l.length ≤ 400000 ∧ plainTx l ∧
  ∀ H' p as, Same H H' → H p = none → H' p = some (.lst (vas as)) → LL H' as (parts l) → (∀ a ∈ as, H a = none) → Q (.ref p) H'
theorem ok_paragraphs_of (A : At K mg "paragraphs_of" ["text"] st_paragraphs_of) (T : Bts mg) (G_words_of : Ok P w K mg base CX0 1 "words_of" ["text"] sp_words_of) :
    Ok P w K mg base CX0 2 "paragraphs_of" ["text"] sp_paragraphs_of := by
  refine A.ok sc_paragraphs_of (fun vs H Q E h => ?_) (fun f cdv A outer s H vs Q E hr h => ?_)
  · obtain ⟨l, rfl, _⟩ := h; rfl
  · obtain ⟨l, rfl, hl, hpl, q⟩ := h
    have rl := rows_length l []
    have rt := rows_total l []
    have rc := cnt_total (rows [] l)
    have pl := parts_length l
    simp only [List.length_nil] at rt
    -- wherever the text's paragraphs are whole
    refine ⟨_, (pss_cons (ps_set (i := 1) sc_paragraphs_of.nd rfl (Or.inl rfl) (pe_lst pa_nil))
      (pss_cons (ps_set (i := 2) sc_paragraphs_of.nd rfl (Or.inl rfl) (pe_lst pa_nil))
      (pss_cons (ps_for PassesOwn.never rfl (pi_list (pe_split (pv 0) pe_str)) (pg_name (i := 3) sc_paragraphs_of.nd rfl (Or.inl rfl))
      (pss_cons (ps_set (i := 4) sc_paragraphs_of.nd rfl (Or.inl rfl) (pe_cd G_words_of (hr.mono (by decide)) pass0 (pa_cons (pv 3) pa_nil)))
      (C8.pss_cut (ps_if (PW.pt (pw_and (pt_cmpR (op_eqL hr) (pv 4) (pe_lst pa_nil) (nomark _)) (pw_and1 (pt_cmpR (op_neL hr) (pv 2) (pe_lst pa_nil) (nomark _))))) (pss_cons (ps_expr (pe_bm PySem.F.plainAttrs_list PySem.F.slot_list_append PySem.F.type_list_append mt_append (pv 1) (pa_cons (pv 2) pa_nil)))
      (pss_one (ps_set (i := 2) sc_paragraphs_of.nd rfl (Or.inl rfl) (pe_lst pa_nil)))) pss_nil)
      (pss_one (ps_set (i := 2) sc_paragraphs_of.nd rfl (Or.inl rfl) (pe_op op_cat (pv 2) (pv 4)))))))
      (C8.pss_cut (ps_if (pt_cmpR (op_neL hr) (pv 2) (pe_lst pa_nil) (nomark _)) (pss_one (ps_expr (pe_bm PySem.F.plainAttrs_list PySem.F.slot_list_append PySem.F.type_list_append mt_append (pv 1) (pa_cons (pv 2) pa_nil)))) pss_nil)
      (pss_one (ps_ret (pv 1))))))), ?_⟩
    refine ⟨Nat.zero_le _, fun o no => ?_⟩
    refine ⟨Nat.zero_le _, fun q0 nq => ?_⟩
    have oq : q0 ≠ o := fun e => by rw [e, upd_same] at nq; cases nq
    have s0 : Same H (upd (upd H o (.lst [])) q0 (.lst [])) := ((Same.refl H).new no).new nq
    refine ⟨_, rfl, ⟨_, rfl⟩, tx l, tx [10], rfl, by rw [lit_nl], by decide, sz (by rw [tx_len]; omega), fun c nc => ?_⟩
    have s1 := s0.new (o := HO.lst ((Txt.split (tx l) (tx [10])).map V.str)) nc
    have nq0 : H q0 = none := ((Same.refl H).new (o := HO.lst []) no).free nq
    have nc0 : H c = none := s0.free nc
    have co : c ≠ o := fun e => by
      rw [e, upd_ne (Ne.symm oq), upd_same] at nc; cases nc
    have cq : c ≠ q0 := fun e => by rw [e, upd_same] at nc; cases nc
    have ec : (upd (upd (upd H o (.lst [])) q0 (.lst [])) c (.lst ((Txt.split (tx l) (tx [10])).map V.str))) c = some (.lst (vts (rows [] l))) := by
      rw [upd_same, split_tx, List.map_map]; rfl
    have eo : (upd (upd (upd H o (.lst [])) q0 (.lst [])) c (.lst ((Txt.split (tx l) (tx [10])).map V.str))) o = some (.lst (vas [])) := by
      rw [upd_ne (Ne.symm co), upd_ne (Ne.symm oq), upd_same]; rfl
    have eq : (upd (upd (upd H o (.lst [])) q0 (.lst [])) c (.lst ((Txt.split (tx l) (tx [10])).map V.str))) q0 = some (.lst (vts [])) := by
      rw [upd_ne (Ne.symm cq), upd_same]; rfl
    generalize (upd (upd (upd H o (.lst [])) q0 (.lst [])) c (.lst ((Txt.split (tx l) (tx [10])).map V.str))) = H1 at s1 ec eo eq ⊢
    refine ⟨c, rfl, ⟨_, .of ec⟩, ?_⟩
    refine for_lst (f := vt) (l := rows [] l) (fun d r σ H3 => ∃ as ps h qa y z, σ = [some (vt l), some (.ref o), some (.ref qa), y, z] ∧ Same H H3 ∧
      H3 c = some (.lst (vts (rows [] l))) ∧ H3 o = some (.lst (vas as)) ∧ LL H3 as ps ∧ (∀ a ∈ as, H a = none ∧ a ≠ o) ∧ H3 qa = some (.lst (vts h)) ∧ qa ≠ o ∧ H qa = none ∧
      h.length ≤ cnt d ∧ (∀ w ∈ h, plainTx w) ∧ ps ++ paras h r = parts l) ?_ ?_ ?_ ?_
    · exact ⟨[], [], [], q0, none, none, rfl, s1, ec, eo, LL.nil, (fun a z => nomatch z), eq, oq, nq0, Nat.zero_le _, (fun a z => nomatch z), rfl⟩
    · rintro d r σ H3 ⟨as, ps, h, qa, y, z, rfl, sm, ec, _⟩; exact .of ec
    · rintro d c1 b σ H3 e ⟨as, ps, h, qa, y, z, rfl, sm, ec, eo, hL, ha, eq, oq, nq, hh, hw, ep⟩
      have cb : cnt (rows [] l) = cnt d + (c1.length + 1) + cnt b := by
        rw [e, cnt_app, Nat.add_assoc]; rfl
      have pb : ps.length ≤ (parts l).length := by rw [← ep, List.length_append]; omega
      have wl := wcut_length c1 []
      -- words = words_of(row)
      refine ⟨_, rfl, c1, rfl, by omega, fun H4 x s4 n4 e4 => ?_⟩
      have s04 : Same H H4 := sm.trans s4
      have nx : H x = none := sm.free n4
      have xo : x ≠ o := fun z => by rw [z, eo] at n4; cases n4
      have xq : x ≠ qa := fun z => by rw [z, eq] at n4; cases n4
      have xc : x ≠ c := fun z => by rw [z, ec] at n4; cases n4
      refine ⟨fun σ H' => ∃ as ps h qa, σ = [some (vt l), some (.ref o), some (.ref qa), some (vt c1), some (.ref x)] ∧ Same H H' ∧
        H' c = some (.lst (vts (rows [] l))) ∧ H' o = some (.lst (vas as)) ∧ LL H' as ps ∧ (∀ a ∈ as, H a = none ∧ a ≠ o) ∧ H' qa = some (.lst (vts h)) ∧ qa ≠ o ∧ H qa = none ∧
        H' x = some (.lst (vts (wcut [] c1))) ∧ h.length ≤ cnt d ∧ (∀ w ∈ h, plainTx w) ∧ ps ++ paras (h ++ wcut [] c1) b = parts l, ?_, ?_⟩
      · -- if words == [] and held != []
        have ep2 : ps ++ (if wcut [] c1 = [] ∧ h ≠ [] then h :: paras [] b else paras (h ++ wcut [] c1) b) = parts l := ep
        refine ⟨_, rfl, Nat.zero_le _, fun e1 ne1 => ?_⟩
        have s05 := s04.new (o := HO.lst []) ne1
        refine ⟨x, e1, _, [], rfl, rfl, .of (kept e4 ne1), .of upd_same, flat_vts (plain_words hpl (e ▸ List.mem_append_right _ List.mem_cons_self)), rfl, _, rfl, tst (c := wcut [] c1 = []) wcut_nil_iff (fun w1 => ?_) (fun w1 => ?_)⟩
        · refine ⟨_, rfl, Nat.zero_le _, fun e2 ne2 => ?_⟩
          have s06 := s05.new (o := HO.lst []) ne2
          have k : ∀ {a o'}, H3 a = some o' → (upd (upd H4 e1 (.lst [])) e2 (.lst [])) a = some o' := fun z => kept (kept (s4 _ _ z) ne1) ne2
          have k4 : ∀ {a o'}, H4 a = some o' → (upd (upd H4 e1 (.lst [])) e2 (.lst [])) a = some o' := fun z => kept (kept z ne1) ne2
          refine ⟨qa, e2, _, [], rfl, rfl, .of (k eq), .of upd_same, flat_vts hw, rfl, _, rfl, ?_⟩
          generalize (upd (upd H4 e1 (.lst [])) e2 (.lst [])) = H6 at s06 k k4 ⊢
          refine tsn (c := h = []) (by rw [nil_iff]) (fun w2 => ?_) (fun w2 => ?_)
          · -- found.append(held), held = []
            refine ⟨_, rfl, .inl ⟨rfl, _, .of (k eo)⟩, _, rfl, o, _, _, rfl, rfl, k eo, ?_, ?_⟩
            · rw [List.length_map, hL.1]; exact szl (by omega)
            · have ko : ∀ {a o'}, a ≠ o → H3 a = some o' → (upd H6 o (.lst (vas as ++ [V.ref qa]))) a = some o' := fun n z => by rw [upd_ne n]; exact k z
              refine ⟨Nat.zero_le _, fun q2 nq2 => ?_⟩
              have nq2' : H6 q2 = none ∧ q2 ≠ o := by
                by_cases z : q2 = o
                · rw [z, upd_same] at nq2; cases nq2
                · rw [upd_ne z] at nq2; exact ⟨nq2, z⟩
              have hq2 : H q2 = none := s06.free nq2'.1
              refine ⟨as ++ [qa], ps ++ [h], [], q2, rfl, (s06.put no).new nq2, ?_, ?_, ?_, ?_, ?_, nq2'.2, hq2, ?_, Nat.zero_le _, (fun a z => nomatch z), ?_⟩
              · exact kept (ko co ec) nq2
              · rw [vas_app]; exact kept upd_same nq2
              · refine LL.snoc (hL.keep fun a z o' e' => kept (ko (ha a z).2 e') nq2) (kept (ko oq eq) nq2)
              · intro a z
                rcases List.mem_append.mp z with z | z
                · exact ha a z
                · rw [List.mem_singleton.mp z]; exact ⟨nq, oq⟩
              · rw [upd_same]; rfl
              · refine kept ?_ nq2
                rw [upd_ne xo]; exact k4 e4
              · rw [← ep2, if_pos ⟨w1, w2⟩, w1, List.append_assoc]; rfl
          · refine ⟨as, ps, h, qa, rfl, s06, k ec, k eo, hL.keep fun a z o' e' => k e', ha, k eq, oq, nq, k4 e4, hh, hw, ?_⟩
            rw [← ep2, if_neg (fun z => z.2 w2)]
        · have k : ∀ {a o'}, H4 a = some o' → (upd H4 e1 (.lst [])) a = some o' := fun z => kept z ne1
          refine ⟨as, ps, h, qa, rfl, s05, k (s4 _ _ ec), k (s4 _ _ eo), hL.keep fun a z o' e' => k (s4 _ _ e'), ha, k (s4 _ _ eq), oq, nq, k e4, hh, hw, ?_⟩
          rw [← ep2, if_neg (fun z => w1 z.1)]
      · rintro σ H6 ⟨as, ps, h, qa, rfl, s6, ec, eo, hL, ha, eq, oq, nq, ex, hh, hw, ep⟩
        -- held = held + words
        refine ⟨_, rfl, _, rfl, qa, x, _, _, rfl, rfl, eq, ex, ?_, fun q3 nq3 => ?_⟩
        · rw [List.length_map, List.length_map]; exact sz (by omega)
        · have k : ∀ {a o'}, H6 a = some o' → (upd H6 q3 (.lst (vts h ++ vts (wcut [] c1)))) a = some o' := fun z => kept z nq3
          refine ⟨as, ps, h ++ wcut [] c1, q3, some (vt c1), some (.ref x), rfl, s6.new nq3, k ec, k eo, hL.keep fun a z o' e' => k e', ha, ?_, ?_, s6.free nq3, ?_, ?_, ep⟩
          · rw [upd_same, vts_app2]
          · intro z; rw [z, eo] at nq3; cases nq3
          · rw [List.length_append, cnt_app]
            have : cnt [c1] = c1.length + 1 := rfl
            omega
          · intro w hw'
            rcases List.mem_append.mp hw' with z | z
            · exact hw w z
            · exact plain_words hpl (e ▸ List.mem_append_right _ List.mem_cons_self) w z
    · rintro σ H3 ⟨as, ps, h, qa, y, z, rfl, sm, ec, eo, hL, ha, eq, oq, nq, hh, hw, ep⟩
      have pb : ps.length ≤ (parts l).length := by rw [← ep, List.length_append]; omega
      refine ⟨fun σ H' => ∃ as y z u, σ = [some (vt l), some (.ref o), u, y, z] ∧ Same H H' ∧ H' o = some (.lst (vas as)) ∧ LL H' as (parts l) ∧ (∀ a ∈ as, H a = none), ?_, ?_⟩
      · refine ⟨_, rfl, Nat.zero_le _, fun e1 ne1 => ?_⟩
        have k : ∀ {a o'}, H3 a = some o' → (upd H3 e1 (.lst [])) a = some o' := fun z => kept z ne1
        refine ⟨qa, e1, _, [], rfl, rfl, .of (k eq), .of upd_same, flat_vts hw, rfl, _, rfl, tsn (c := h = []) (by rw [nil_iff]) (fun w2 => ?_) (fun w2 => ?_)⟩
        · refine ⟨_, rfl, .inl ⟨rfl, _, .of (k eo)⟩, _, rfl, o, _, _, rfl, rfl, k eo, ?_, ?_⟩
          · rw [List.length_map, hL.1]; exact szl (by omega)
          · refine ⟨as ++ [qa], y, z, _, rfl, (sm.new ne1).put no, ?_, ?_, ?_⟩
            · rw [vas_app]; exact upd_same
            · have e2 : ps ++ [h] = parts l := by rw [← ep]; simp [paras, w2]
              rw [← e2]
              have ko : ∀ {a o'}, a ≠ o → H3 a = some o' → (upd (upd H3 e1 (.lst [])) o (.lst (vas as ++ [V.ref qa]))) a = some o' := fun n z => by rw [upd_ne n]; exact k z
              exact LL.snoc (hL.keep fun a z o' e' => ko (ha a z).2 e') (ko oq eq)
            · intro a z
              rcases List.mem_append.mp z with z | z
              · exact (ha a z).1
              · rw [List.mem_singleton.mp z]; exact nq
        · refine ⟨as, y, z, _, rfl, sm.new ne1, k eo, ?_, fun a z => (ha a z).1⟩
          have e2 : ps = parts l := by rw [← ep, w2]; simp [paras]
          rw [← e2]
          exact hL.keep fun a z o' e' => k e'
      · rintro σ H4 ⟨as, y, z, u, rfl, s4, eo, hL, ha⟩
        exact ⟨_, rfl, q H4 o as s4 no eo hL ha⟩

def sprOk (ws : List (List Nat)) (n : Int) : Prop := n ≤ 5000000
def sp_spread_line (K : PySem.W.Frag) (ea : EA) : Sp := fun vs H Q E => ∃ (p : Addr) (ws : List (List Nat)) (n : Int), vs = [.ref p, .int n] ∧ SqL K H p (vts ws) ∧ Bw ws ∧ (2 ≤ ws.length → 1 ≤ n → lsz ws ≤ n → sprOk ws n) ∧
  (n < 1 → E (.ref ea.nw) none H) ∧ (1 ≤ n → n < (lsz ws : Nat) → ∀ H', Same H H' → E (.ref ea.tw) none H') ∧
  (1 ≤ n → ((lsz ws : Nat) : Int) ≤ n → ∀ H', Same H H' → Q (vt (spr ws n.toNat)) H')
theorem ok_spread_line {ea : EA} (A : At K mg "spread_line" ["words", "width"] st_spread_line) (T : Bts mg) (X : Xs K mg ea) (G_need_width : Ok P w K mg base (CXn P w) 1 "need_width" ["width"] (sp_need_width ea))
    (G_size_of : Ok P w K mg base CX0 1 "size_of" ["words", "begin", "end"] (sp_size_of K)) :
    Ok P w K mg base (CXn P w) 2 "spread_line" ["words", "width"] (sp_spread_line K ea) := by
  refine A.okX sc_spread_line (fun vs H Q E h => ?_) (fun f cdv A outer s H vs Q E hr h => ?_)
  · obtain ⟨p, ws, n, rfl, _⟩ := h; rfl
  · obtain ⟨p, ws, n, rfl, hS, hw, hb, e1, e2, q⟩ := h
    refine ⟨_, (pss_cons (ps_expr (pe_cd G_need_width (hr.mono (by decide)) passR (pa_cons (pv 1) pa_nil)))
      (pss_cons (ps_set (i := 2) sc_spread_line.nd rfl (Or.inl rfl) (pe_cd G_size_of (hr.mono (by decide)) pass0 (pa_cons (pv 0) (pa_cons pe_int (pa_cons (pe_callB (call_lenK K) (by rfl) T.m_len PySem.boot_len (pa_cons (pv 0) pa_nil)) pa_nil)))))
      (pss_cons (ps_if (pt_cmpR op_gt (pv 2) (pv 1) (nomark _)) (pss_one (L2N.ps_raise rfl (L2N.takes_of rfl rfl rfl rfl) (X.c_TooWide.mk_raise (by rfl)))) pss_nil)
      (PSs.nox (pss_cons (ps_if (pt_cmpR op_lt (pe_callB (call_lenK K) (by rfl) T.m_len PySem.boot_len (pa_cons (pv 0) pa_nil)) pe_int (nomark _)) (pss_one (ps_ret (pe_joinK K pe_str (pv 0)))) pss_nil)
      (pss_cons (ps_set (i := 3) sc_spread_line.nd rfl (Or.inl rfl) (pe_op op_sub (pv 1) (pv 2)))
      (pss_cons (ps_set (i := 4) sc_spread_line.nd rfl (Or.inl rfl) (pe_op op_sub (pe_callB (call_lenK K) (by rfl) T.m_len PySem.boot_len (pa_cons (pv 0) pa_nil)) pe_int))
      (pss_cons (ps_set (i := 5) sc_spread_line.nd rfl (Or.inl rfl) (pe_ix (ix_listK K) (pv 0) pe_int (fun _ _ => rfl)))
      (pss_cons (ps_for PassesOwn.never rfl (pi_range1 (by rfl) T.m_range (pa_cons (pv 4) pa_nil)) (pg_name (i := 6) sc_spread_line.nd rfl (Or.inl rfl))
      (pss_cons (ps_set (i := 7) sc_spread_line.nd rfl (Or.inl rfl) (pe_op op_add (pe_op op_add pe_int (pe_op op_fdiv (pv 3) (pv 4))) (pe_callTy call_int1 (by rfl) T.m_int (by decide +kernel) (pa_cons (pe_cmpR op_lt (pv 6) (pe_op op_mod (pv 3) (pv 4)) (nomark _)) pa_nil))))
      (pss_one (ps_set (i := 5) sc_spread_line.nd rfl (Or.inl rfl) (pe_op op_add_str (pe_op op_add_str (pv 5) (pe_op op_mulS pe_str (pv 7))) (pe_ix (ix_listK K) (pv 0) (pe_op op_add (pv 6) pe_int) (fun _ _ => rfl)))))))
      (pss_one (ps_ret (pv 5)))))))))))), ?_⟩
    refine ⟨_, rfl, n, rfl, e1, fun n1 => ?_⟩
    have hle := hw.le
    refine ⟨_, rfl, _, rfl, p, _, rfl, .inl hS, p, ws, 0, ws.length, by rw [List.length_map]; rfl, hS, hw, Nat.zero_le _, Nat.le_refl _, fun H1 s1 => ?_⟩
    rw [size_all]
    refine ⟨_, rfl, _, rfl, _, _, rfl, rfl, _, rfl, tst (c := n < (lsz ws : Nat)) rfl (fun h1 => ?_) (fun h1 => ?_)⟩
    · exact e2 n1 h1 H1 s1
    have hS1 := s1.seq hS
    have h1' : ((lsz ws : Nat) : Int) ≤ n := by omega
    refine ⟨_, rfl, p, _, rfl, .inl hS1, _, _, rfl, rfl, _, rfl, tst (c := ws.length < 2) (by rw [List.length_map]; simp only [decide_eq_decide]; omega) (fun h2 => ?_) (fun h2 => ?_)⟩
    · refine ⟨⟨_, rfl⟩, _, rfl, _, p, ws.map tx, rfl, rfl, .inl (by rw [map_vt]; exact hS1), ?_, ?_⟩
      · rw [sum_tx, lit_sp, tx_len, List.length_map]
        have := hw.tot
        simp only [List.length_cons, List.length_nil]
        omega
      · rw [lit_sp, join_tx, ← spr_short h2 n.toNat]
        exact q n1 h1' H1 s1
    · obtain ⟨x0, r0, rfl⟩ : ∃ x r, ws = x :: r := by
        cases ws with
        | nil => exact absurd (by decide) h2
        | cons x r => exact ⟨x, r, rfl⟩
      have b1 : n ≤ 5000000 := hb (by omega) n1 h1'
      obtain ⟨m, hm⟩ : ∃ m : Nat, n - (lsz (x0 :: r0) : Nat) = (m : Int) := ⟨(n - (lsz (x0 :: r0) : Nat)).toNat, by omega⟩
      have hpn : 1 ≤ r0.length := by simp only [List.length_cons] at h2; omega
      have hp : (((vts (x0 :: r0)).length : Nat) : Int) - 1 = (r0.length : Nat) := by rw [List.length_map, List.length_cons]; omega
      refine ⟨_, rfl, _, rfl, _, _, rfl, rfl, ?_⟩
      refine ⟨_, rfl, p, _, rfl, .inl hS1, _, _, rfl, rfl, ?_⟩
      refine ⟨_, rfl, p, _, _, _, rfl, rfl, hS1, atI_nat (j := 0) rfl, ?_⟩
      refine ⟨_, rfl, r0.length, by rw [← hp], by omega, by simp only [List.length_cons] at hle; omega, ?_⟩
      rw [Int.toNat_natCast]
      have hnm : n.toNat = lsz (x0 :: r0) + m := by omega
      have hsl : (spr (x0 :: r0) n.toNat).length = n.toNat := spr_len (by simp only [List.length_cons]; omega) (by omega)
      refine for_range (n := r0.length) (fun i σ H3 => H3 = H1 ∧ ∃ l y z, σ = [some (.ref p), some (.int n), some (.int (lsz (x0 :: r0) : Nat)), some (.int (m : Nat)), some (.int (r0.length : Nat)), some (vt l), y, z] ∧
        l ++ sprTail m r0.length i (r0.drop i) = spr (x0 :: r0) n.toNat) ?_ ?_ ?_
      · refine ⟨rfl, x0, none, none, by rw [← hm, ← hp]; rfl, ?_⟩
        unfold spr
        rw [size_all, hnm, Nat.add_sub_cancel_left]
        rfl
      · rintro i σ H3 hi ⟨rfl, l, y, z, rfl, el⟩
        have e0 : (0 + (i : Int)) = (i : Int) := by omega
        have hx : (x0 :: r0)[i + 1]? = some r0[i] := by simp [hi]
        have e0' : (0 + (i : Int)) + 1 = ((i + 1 : Nat) : Int) := by omega
        have hg : ∀ c : Bool, c = decide (i < m % r0.length) → 1 + ((m : Nat) : Int) / ((r0.length : Nat) : Int) + (if c = true then 1 else 0) = ((gap m r0.length i : Nat) : Int) := fun c hc => by
          subst hc
          unfold gap
          rw [← Int.natCast_ediv]
          by_cases h : i < m % r0.length
          · rw [decide_eq_true h, if_pos rfl, if_pos h]; omega
          · rw [decide_eq_false h, if_neg Bool.false_ne_true, if_neg h]; omega
        have gl := gap_le (more := m) (p := r0.length) (k := i)
        have el2 : l ++ (List.replicate (gap m r0.length i) 32 ++ r0[i] ++ sprTail m r0.length (i + 1) (r0.drop (i + 1))) = spr (x0 :: r0) n.toNat := by
          rw [← el, List.drop_eq_getElem_cons hi]; rfl
        have ell : l.length + gap m r0.length i + r0[i].length ≤ n.toNat := by
          rw [← hsl, ← el2]
          simp only [List.length_append, List.length_replicate]; omega
        refine ⟨_, rfl, _, rfl, _, _, rfl, rfl, ⟨by omega, by simp only [List.length_cons] at hle; omega⟩, _, _, rfl, rfl, _, rfl, _, rfl, _, rfl, _, _, rfl, rfl, (show (0 : Int) < (r0.length : Nat) by omega), _, _, rfl, rfl, .inr ⟨_, rfl, _, _, rfl, rfl, ?_⟩⟩
        have hc : decide (0 + (i : Int) < ((m : Nat) : Int) % ((r0.length : Nat) : Int)) = decide (i < m % r0.length) := by
          rw [← Int.natCast_emod]
          simp only [decide_eq_decide]; omega
        refine ⟨_, rfl, _, rfl, [32], (gap m r0.length i : Nat), by rw [lit_sp], by rw [← hg _ hc], by omega, by omega, sz (by simp <;> omega), _, _, rfl, rfl, ?_, ?_⟩
        · rw [tx_len, tx_len, rep32, List.length_replicate, Int.toNat_natCast]; exact sz (by omega)
        refine ⟨_, rfl, _, rfl, _, _, rfl, rfl, p, _, _, _, rfl, rfl, hS1, at_of e0' (flat_get hx), _, _, rfl, rfl, ?_, ?_⟩
        · rw [tx_app, tx_len, tx_len, rep32, List.length_append, List.length_replicate, Int.toNat_natCast]; exact sz (by omega)
        · rw [tx_app, tx_app, rep32, Int.toNat_natCast]
          refine ⟨rfl, l ++ List.replicate (gap m r0.length i) 32 ++ r0[i], some (.int (0 + (i : Int))), some (.int (gap m r0.length i : Nat)), by rw [← hg _ hc]; rfl, ?_⟩
          rw [← el2]; simp
      · rintro σ H3 ⟨rfl, l, y, z, rfl, el⟩
        rw [List.drop_length] at el
        rw [show sprTail m r0.length r0.length [] = [] from rfl, List.append_nil] at el
        refine ⟨_, rfl, ?_⟩
        rw [el]
        exact q n1 h1' _ s1

theorem lit_nl2 : PySem.Str.ofString "\n\n" = tx [10, 10] := by decide +kernel
theorem Bw.seg {ws : List (List Nat)} (h : Bw ws) (a b : Nat) : Bw (Tw.seg ws a b) := by
  have t1 := total_seg ws a b
  have t2 := seg_le ws a b
  have t3 := h.tot
  have t4 := h.le
  exact ⟨by omega, by omega, fun x hx => h.pl x (seg_mem hx)⟩
def sp_squared (ea : EA) : Sp := fun vs H Q E => ∃ (l : List Nat) (n : Int), vs = [vt l, .int n] ∧ l.length ≤ 400000 ∧ plainTx l ∧ (∀ p ∈ parts l, Bw p ∧ total p + p.length ≤ 200000) ∧ Wb n ∧
  (n < 1 → E (.ref ea.nw) none H) ∧ (1 ≤ n → n < (lgp (parts l) : Nat) → ∀ H', Same H H' → E (.ref ea.lw) none H') ∧
  (1 ≤ n → ((lgp (parts l) : Nat) : Int) ≤ n → ∀ H' bs, Same H H' → Bs (Sqb n) (parts l) bs → Q (vt (jn [10, 10] bs)) H')
theorem ok_squared {ea : EA} (A : At K mg "squared" ["text", "width"] st_squared) (T : Bts mg) (X : Xs K mg ea) (G_need_width : Ok P w K mg base (CXn P w) 1 "need_width" ["width"] (sp_need_width ea))
    (G_paragraphs_of : Ok P w K mg base CX0 2 "paragraphs_of" ["text"] sp_paragraphs_of) (G_spans_of : Ok P w K mg base (CXn P w) 2 "spans_of" ["words", "starts"] (sp_spans_of K ea))
    (G_spread_line : Ok P w K mg base (CXn P w) 2 "spread_line" ["words", "width"] (sp_spread_line K ea))
    (G_best_starts : Ok P w K mg base (CXn P w) 6 "best_starts" ["words", "width"] (sp_best_starts K ea)) :
    Ok P w K mg base (CXn P w) 7 "squared" ["text", "width"] (sp_squared ea) := by
  refine A.okX sc_squared (fun vs H Q E h => ?_) (fun f cdv A outer s H vs Q E hr h => ?_)
  · obtain ⟨l, n, rfl, _⟩ := h; rfl
  · obtain ⟨l, n, rfl, hl, hpl, hbw, hn, e1, e2, q⟩ := h
    refine ⟨_, (pss_cons (ps_expr (pe_cd G_need_width (hr.mono (by decide)) passR (pa_cons (pv 1) pa_nil)))
      (pss_cons (ps_set (i := 2) sc_squared.nd rfl (Or.inl rfl) (pe_lst pa_nil))
      (pss_cons (ps_for PassesOwn.leaving rfl (pi_list (pe_cd G_paragraphs_of (hr.mono (by decide)) pass0 (pa_cons (pv 0) pa_nil))) (pg_name (i := 3) sc_squared.nd rfl (Or.inl rfl))
      (pss_cons (ps_set (i := 4) sc_squared.nd rfl (Or.inl rfl) (pe_lst pa_nil))
      (pss_cons (ps_for PassesOwn.leaving rfl (pi_list (pe_cd G_spans_of (hr.mono (by decide)) passR (pa_cons (pv 3) (pa_cons (pe_cd G_best_starts (hr.mono (by decide)) passR (pa_cons (pv 3) (pa_cons (pv 1) pa_nil))) pa_nil)))) (pg_name (i := 5) sc_squared.nd rfl (Or.inl rfl))
      (pss_cons (ps_set (i := 6) sc_squared.nd rfl (Or.inl rfl) (pe_slice (sl_listK K) (pv 3) (po_some (pe_ix (ix_tupK K) (pv 5) pe_int (fun _ _ => rfl))) (po_some (pe_ix (ix_tupK K) (pv 5) pe_int (fun _ _ => rfl)))))
      (pss_one (ps_if (pt_cmpR op_lt (pe_ix (ix_tupK K) (pv 5) pe_int (fun _ _ => rfl)) (pe_callB (call_lenK K) (by rfl) T.m_len PySem.boot_len (pa_cons (pv 3) pa_nil)) (nomark _)) (pss_one (ps_expr (pe_bm PySem.F.plainAttrs_list PySem.F.slot_list_append PySem.F.type_list_append mt_append (pv 4) (pa_cons (pe_cd G_spread_line (hr.mono (by decide)) passR (pa_cons (pv 6) (pa_cons (pv 1) pa_nil))) pa_nil)))) (pss_one (ps_expr (pe_bm PySem.F.plainAttrs_list PySem.F.slot_list_append PySem.F.type_list_append mt_append (pv 4) (pa_cons (pe_joinK K pe_str (pv 6)) pa_nil))))))))
      (pss_one (ps_expr (pe_bm PySem.F.plainAttrs_list PySem.F.slot_list_append PySem.F.type_list_append mt_append (pv 2) (pa_cons (pe_joinK K pe_str (pv 4)) pa_nil)))))))
      (PSs.nox (pss_one (ps_ret (pe_joinK K pe_str (pv 2)))))))), ?_⟩
    refine ⟨_, rfl, n, rfl, e1, fun n1 => ?_⟩
    refine ⟨sz (by simp), fun D hD => ?_⟩
    have s1 := (Same.refl H).new (o := HO.lst []) hD
    have eD : (upd H D (HO.lst [])) D = some (.lst (vts [])) := upd_same
    generalize upd H D (HO.lst []) = H1 at s1 eD ⊢
    refine ⟨_, rfl, l, rfl, hl, hpl, fun H2 p as s2 np ep L na => ?_⟩
    have eD2 := s2 _ _ eD
    have s12 := s1.trans s2
    have hps := L.1
    have pD : p ≠ D := fun z => by rw [z, eD] at np; cases np
    have aD : ∀ a ∈ as, a ≠ D := fun a ha z => by have := na a ha; rw [z, eD] at this; cases this
    have pl := parts_length l
    refine ⟨p, rfl, ⟨_, .of ep⟩, ?_⟩
    refine for_list (xs := vas as) (fun i σ H' => Same H H' ∧ (∀ b o, b ≠ D → H2 b = some o → H' b = some o) ∧ ∃ bs x1 x2 x3 x4, σ = [some (vt l), some (.int n), some (.ref D), x1, x2, x3, x4] ∧ H' D = some (.lst (vts bs)) ∧ Bs (Sqb n) ((parts l).take i) bs ∧ ((lgp ((parts l).take i) : Nat) : Int) ≤ n) ?_ ?_ ?_ ?_
    · exact ⟨s12, fun _ _ _ z => z, [], none, none, none, none, rfl, eD2, trivial, show (0 : Int) ≤ n by omega⟩
    · rintro i σ H' _ ⟨_, s3, _⟩; exact .of (s3 _ _ pD ep)
    · rintro i x σ H' hx ⟨s3, s3', bs, x1, x2, x3, x4, rfl, eD3, hbs, hlg⟩
      have hi : i < as.length := by have := (List.getElem?_eq_some_iff.mp hx).1; simpa using this
      rw [flat_get (List.getElem?_eq_getElem hi)] at hx
      cases hx
      have hip : i < (parts l).length := by omega
      obtain ⟨pp, hpp⟩ : ∃ pp, (parts l)[i]? = some pp := ⟨_, List.getElem?_eq_getElem hip⟩
      have hm : pp ∈ parts l := List.mem_of_getElem? hpp
      obtain ⟨a, ga, fa⟩ := (L.keep fun a ha o e => s3' a o (aD a ha) e).get hpp
      rw [List.getElem?_eq_getElem hi] at ga
      cases ga
      obtain ⟨hb, hsm⟩ := hbw pp hm
      have hge := lgp_ge hm
      have hbl := hbs.len
      rw [List.length_take] at hbl
      have ett : (parts l).take (i + 1) = (parts l).take i ++ [pp] := by rw [List.take_add_one, hpp]; rfl
      -- the rows
      refine ⟨sz (by simp), fun R hR => ?_⟩
      have k3 := (Same.refl H').new (o := HO.lst []) hR
      have eR : (upd H' R (HO.lst [])) R = some (.lst (vts [])) := upd_same
      generalize upd H' R (HO.lst []) = H3 at k3 eR ⊢
      refine ⟨_, rfl, _, rfl, _, rfl, as[i], pp, n, rfl, .of (k3 _ _ fa), hb, hn, fun z => by omega, fun _ z => e2 n1 (by omega) H3 (s3.trans k3), fun ft H4 o xs ks s4 no eo ht hbc => ?_⟩
      have hf := hbc.fc
      have hc := hf.ch
      have hkl := hc.len
      have hble := hb.le
      have hbt := hb.tot
      have bst : Bst n pp ks := ⟨_, ht, hbc⟩
      have hst := sq_tot n1 bst
      refine ⟨as[i], o, pp, toI ks, rfl, .of (s4 _ _ (k3 _ _ fa)), .of eo, hb, by rw [toI_length]; omega, fun z => absurd ⟨ks, rfl, hc⟩ z, fun ks' H5 o' ts es hc' s5 no' eo' hs => ?_⟩
      have := toI_inj es
      subst this
      have k5 := k3.trans (s4.trans s5)
      have eD5 := k5 _ _ eD3
      have fa5 := k5 _ _ fa
      have eR5 := s5 _ _ (s4 _ _ eR)
      have DR : D ≠ R := fun z => by rw [z, hR] at eD3; cases eD3
      have aR : as[i] ≠ R := fun z => by rw [z, hR] at fa; cases fa
      have oR : o' ≠ R := fun z => by rw [z, s4 _ _ eR] at no'; cases no'
      have tR : ∀ (j : Nat) (t : Addr) (q : Nat × Nat), ts[j]? = some t → (pairs pp.length ks)[j]? = some q → t ≠ R := fun j t q h1 h2 z => by
        have := hs.2 j t q h1 h2
        rw [z, eR5] at this; cases this
      have hsl := hs.1
      have hln := pairs_length pp.length ks
      refine ⟨o', rfl, ⟨_, .of eo'⟩, ?_⟩
      refine for_list (xs := ts.map V.ref) (fun j σ H6 => (∀ b o, b ≠ R → H5 b = some o → H6 b = some o) ∧ H6 R = some (.lst (vts ((sq pp n ks).take j))) ∧ ∃ x3 x4, σ = [some (vt l), some (.int n), some (.ref D), some (.ref as[i]), some (.ref R), x3, x4]) ?_ ?_ ?_ ?_
      · exact ⟨fun _ _ _ z => z, eR5, _, _, rfl⟩
      · rintro j σ H6 _ ⟨s6, _⟩; exact .of (s6 _ _ oR eo')
      · rintro j x σ H6 hx ⟨s6, eR6, x3, x4, rfl⟩
        have hj : j < ts.length := by have := (List.getElem?_eq_some_iff.mp hx).1; simpa using this
        rw [flat_get (List.getElem?_eq_getElem hj)] at hx
        cases hx
        obtain ⟨qq, hqq⟩ : ∃ q, (pairs pp.length ks)[j]? = some q := ⟨_, List.getElem?_eq_getElem (by omega)⟩
        have et := s6 _ _ (tR j _ qq (List.getElem?_eq_getElem hj) hqq) (hs.2 j _ qq (List.getElem?_eq_getElem hj) hqq)
        have fa6 := s6 _ _ aR fa5
        have hqm := List.mem_of_getElem? hqq
        have hbest := hbc.best qq hqm
        have hfit := hbest.2.2.1
        have hsq : (sq pp n ks)[j]? = some (if qq.2 < pp.length then spr (seg pp qq.1 qq.2) n.toNat else jn [32] (seg pp qq.1 qq.2)) := by unfold sq; rw [List.getElem?_map, hqq]; rfl
        have esz : lsz (seg pp qq.1 qq.2) = size pp qq.1 qq.2 := rfl
        refine ⟨_, rfl, _, rfl, _, _, _, _, rfl, rfl, .of et, atI_nat (j := 0) rfl, qq.1, rfl, _, rfl, _, _, _, _, rfl, rfl, .of et, atI_nat (j := 1) rfl, qq.2, rfl, as[i], _, rfl, .of fa6, fun c nc => ?_⟩
        have ec : cutV (vts pp) (some (qq.1 : Int)) (some (qq.2 : Int)) = vts (seg pp qq.1 qq.2) := cut_ft vt pp qq.1 qq.2
        rw [ec]
        have k7 := (Same.refl H6).new (o := HO.lst (vts (seg pp qq.1 qq.2))) nc
        have ec7 : (upd H6 c (HO.lst (vts (seg pp qq.1 qq.2)))) c = some (.lst (vts (seg pp qq.1 qq.2))) := upd_same
        have eR7 := kept eR6 nc (o := HO.lst (vts (seg pp qq.1 qq.2)))
        have et7 := kept et nc (o := HO.lst (vts (seg pp qq.1 qq.2)))
        generalize upd H6 c (HO.lst (vts (seg pp qq.1 qq.2))) = H7 at k7 ec7 eR7 et7 ⊢
        refine ⟨_, rfl, _, _, _, _, rfl, rfl, .of et7, atI_nat (j := 1) rfl, _, rfl, as[i], _, rfl, .inl (.of (k7 _ _ fa6)), _, _, rfl, rfl, _, rfl, tst (c := qq.2 < pp.length) (by rw [List.length_map]; simp only [decide_eq_decide]; omega) (fun h1 => ?_) (fun h1 => ?_)⟩
        · have hw := hbest.wide ht h1
          have hsp := size_P pp (show qq.1 < pp.length by have := hbest.1; omega) (Nat.le_refl _)
          have htk := total_take pp pp.length
          refine ⟨_, rfl, .inl ⟨rfl, _, .of eR7⟩, _, rfl, _, rfl, c, seg pp qq.1 qq.2, n, rfl, .of ec7, hb.seg _ _, fun _ _ _ => (show n ≤ 5000000 by omega), fun z => by omega, fun _ z => by omega, fun _ _ H8 s8 => ?_⟩
          refine ⟨R, _, _, rfl, rfl, s8 _ _ eR7, by rw [List.length_map, List.length_take, sq_length]; exact szl (by omega), fun b o hb2 e => by rw [upd_ne hb2]; exact s8 _ _ (k7 _ _ (s6 b o hb2 e)), ?_, _, _, rfl⟩
          rw [upd_same, List.take_add_one, hsq, if_pos h1, Option.toList_some, vts_app]
        · have t1 := total_seg pp qq.1 qq.2
          have t2 := seg_le pp qq.1 qq.2
          refine ⟨_, rfl, .inl ⟨rfl, _, .of eR7⟩, ⟨_, rfl⟩, _, rfl, _, c, (seg pp qq.1 qq.2).map tx, rfl, rfl, .inl (.of (by rw [ec7, map_vt])), ?_, ?_⟩
          · rw [sum_tx, lit_sp, tx_len, List.length_map]
            simp only [List.length_cons, List.length_nil]
            omega
          · rw [lit_sp, join_tx]
            refine ⟨R, _, _, rfl, rfl, eR7, by rw [List.length_map, List.length_take, sq_length]; exact szl (by omega), fun b o hb2 e => by rw [upd_ne hb2]; exact k7 _ _ (s6 b o hb2 e), ?_, _, _, rfl⟩
            rw [upd_same, List.take_add_one, hsq, if_neg h1, Option.toList_some, vts_app]
      · rintro σ H6 ⟨s6, eR6, x3, x4, rfl⟩
        rw [List.length_map, List.take_of_length_le (by rw [sq_length]; omega)] at eR6
        have eD6 := s6 _ _ DR eD5
        refine ⟨_, rfl, .inl ⟨rfl, _, .of eD6⟩, ⟨_, rfl⟩, _, rfl, _, R, (sq pp n ks).map tx, rfl, rfl, .inl (.of (by rw [eR6, map_vt])), ?_, ?_⟩
        · rw [sum_tx, lit_nl, tx_len, List.length_map, sq_length]
          simp only [List.length_cons, List.length_nil]
          omega
        · rw [lit_nl, join_tx]
          have sH : Same H H6 := fun b o e => s6 b o (fun z => by rw [z] at e; have := s3 _ _ e; rw [hR] at this; cases this) (k5 _ _ (s3 _ _ e))
          refine ⟨D, _, _, rfl, rfl, eD6, by rw [List.length_map]; exact szl (by omega), sH.put hD, ?_⟩
          refine ⟨fun b o3 hb3 e3 => ?_, bs ++ [jn [10] (sq pp n ks)], _, _, _, _, rfl, by rw [upd_same, vts_app], ?_, ?_⟩
          · have e4 := s3' b o3 hb3 e3
            rw [upd_ne hb3]
            exact s6 _ _ (fun z => by rw [z, hR] at e4; cases e4) (k5 _ _ e4)
          · rw [ett]; exact hbs.snoc ⟨ks, bst, rfl⟩
          · rw [ett, lgp_app]
            have : longest pp ≤ n.toNat := longest_le fun w hw' => by have := ft.2 w hw'; omega
            omega
    · rintro σ H' ⟨s3, s3', bs, x1, x2, x3, x4, rfl, eD3, hbs, hlg⟩
      rw [List.length_map, List.take_of_length_le (by omega)] at hbs hlg
      have htl := sq_len n1 hbs
      refine ⟨⟨_, rfl⟩, _, rfl, _, D, bs.map tx, rfl, rfl, .inl (.of (by rw [eD3, map_vt])), ?_, ?_⟩
      · rw [sum_tx, lit_nl2, tx_len, List.length_map]
        simp only [List.length_cons, List.length_nil]
        omega
      · rw [lit_nl2, join_tx]
        exact q n1 hlg H' bs s3 hbs

def cell (ns : List Int) (k : Nat) : Int := ns.getD k 0
def sp__law_cell_at (K : PySem.W.Frag) : Sp := fun vs H Q _ => ∃ (a : Addr) (ns : List Int) (k : Nat), vs = [.ref a, .int k] ∧ SqL K H a (vis ns) ∧ Q (.int (cell ns k)) H
theorem ok__law_cell_at (A : At K mg "_law_cell_at" ["_law_script", "_law_k"] st__law_cell_at) (T : Bts mg) : Ok P w K mg base CX0 1 "_law_cell_at" ["_law_script", "_law_k"] (sp__law_cell_at K) := by
  refine A.ok sc__law_cell_at (fun vs H Q E h => ?_) (fun f cdv A outer s H vs Q E hr h => ?_)
  · obtain ⟨a, ns, k, rfl, _⟩ := h; rfl
  · obtain ⟨a, ns, k, rfl, hS, q⟩ := h
    refine ⟨_, (pss_cons (ps_if (pt_cmpR op_lt (pv 1) (pe_callB (call_lenK K) (by rfl) T.m_len PySem.boot_len (pa_cons (pv 0) pa_nil)) (nomark _)) (pss_one (ps_ret (pe_ix (ix_listK K) (pv 0) (pv 1) (fun _ _ => rfl)))) pss_nil)
      (pss_one (ps_ret pe_int))), ?_⟩
    refine ⟨_, rfl, _, rfl, a, _, rfl, .inl hS, _, _, rfl, rfl, _, rfl, tst (c := k < ns.length) ?_ (fun n => ?_) (fun n => ?_)⟩
    · rw [List.length_map]
      by_cases e : k < ns.length
      · rw [decide_eq_true e, decide_eq_true (by omega)]
      · rw [decide_eq_false e, decide_eq_false (by omega)]
    · refine ⟨_, rfl, _, rfl, a, _, _, _, rfl, rfl, hS, atI_nat (flat_get (List.getElem?_eq_getElem n)), ?_⟩
      have e : cell ns k = ns[k] := by
        unfold cell
        rw [List.getD_eq_getElem?_getD, List.getElem?_eq_getElem n]; rfl
      rw [e] at q; exact q
    · have e : cell ns k = 0 := by
        unfold cell
        rw [List.getD_eq_getElem?_getD, List.getElem?_eq_none (by omega)]; rfl
      rw [e] at q
      exact q

def signs : List Nat := [33, 34, 35, 36, 38, 39, 40, 41, 42, 43, 44, 45, 46, 47, 48, 49, 50, 51, 52, 53, 54, 55, 56, 57, 58, 59, 60, 61, 62, 63, 64, 65, 66, 67, 68, 69, 70, 71, 72, 73, 74, 75, 76, 77, 78, 79, 80, 81, 82, 83, 84, 85, 86, 87, 88, 89, 90, 91, 92, 93, 94, 95, 96]
def signs2 : List Nat := [97, 98, 99, 100, 101, 102, 103, 104, 105, 106, 107, 108, 109, 110, 111, 112, 113, 114, 115, 116, 117, 118, 119, 120, 121, 122, 123, 124, 125, 126]
def sign (n : Int) : Nat := (signs ++ signs2).getD (n % 93).toNat 33
theorem lit_signs : PySem.Str.ofString "!\"#$&'()*+,-./0123456789:;<=>?@ABCDEFGHIJKLMNOPQRSTUVWXYZ[\\]^_`" = tx signs := by decide +kernel
theorem lit_signs2 : PySem.Str.ofString "abcdefghijklmnopqrstuvwxyz{|}~" = tx signs2 := by decide +kernel
theorem sign_in (n : Int) : 33 ≤ sign n ∧ sign n ≤ 126 := by
  have h : ∀ k : Nat, k < 93 → 33 ≤ (signs ++ signs2).getD k 33 ∧ (signs ++ signs2).getD k 33 ≤ 126 := by decide +kernel
  exact h _ (by omega)
def sp__law_sign_by : Sp := fun vs H Q _ => ∃ n : Int, vs = [.int n] ∧ Q (vt [sign n]) H
theorem ok__law_sign_by (A : At K mg "_law_sign_by" ["_law_cell"] st__law_sign_by) (T : Bts mg) : Ok P w K mg base CX0 1 "_law_sign_by" ["_law_cell"] sp__law_sign_by := by
  refine A.ok sc__law_sign_by (fun vs H Q E h => ?_) (fun f cdv A outer s H vs Q E hr h => ?_)
  · obtain ⟨n, rfl, _⟩ := h; rfl
  · obtain ⟨n, rfl, q⟩ := h
    refine ⟨_, (pss_cons (ps_set (i := 1) sc__law_sign_by.nd rfl (Or.inl rfl) pe_str)
      (pss_cons (ps_set (i := 1) sc__law_sign_by.nd rfl (Or.inl rfl) (pe_op op_add_str (pv 1) pe_str))
      (pss_one (ps_ret (pe_ix ix_str (pv 1) (pe_op op_mod (pv 0) pe_int) (fun _ _ => rfl)))))), ?_⟩
    refine ⟨_, rfl, _, _, rfl, rfl, ?_, ?_⟩
    · rw [lit_signs, lit_signs2]; exact sz (by decide)
    · refine ⟨_, rfl, _, rfl, _, _, rfl, rfl, (show (0 : Int) < 93 by decide), tx (signs ++ signs2), n % 93, sign n, ?_, rfl, ?_, ?_, ?_⟩
      · rw [lit_signs, lit_signs2, tx_app]
      · rw [tx_len]; exact sz (by decide)
      · rw [tx_list, show n % 93 = ((n % 93).toNat : Nat) by omega]
        refine atI_nat ?_
        unfold sign
        rw [List.getD_eq_getElem?_getD]
        have h : (n % 93).toNat < (signs ++ signs2).length := by
          have : (signs ++ signs2).length = 93 := rfl
          omega
        rw [List.getElem?_eq_getElem h]; rfl
      · exact q

def sp__law_text_by (K : PySem.W.Frag) : Sp := fun vs H Q _ => ∃ (a : Addr) (ns : List Int) (fl : Bool), vs = [.ref a, .bl fl] ∧ SqL K H a (vis ns) ∧ ns.length ≤ 63 ∧
  ∀ (l : List Nat) H', Same H H' → l.length ≤ 40 * ns.length → plainTx l → Q (vt l) H'
theorem ok__law_text_by (A : At K mg "_law_text_by" ["_law_cells", "_law_flowing"] st__law_text_by) (T : Bts mg) (G__law_sign_by : Ok P w K mg base CX0 1 "_law_sign_by" ["_law_cell"] sp__law_sign_by) :
    Ok P w K mg base CX0 2 "_law_text_by" ["_law_cells", "_law_flowing"] (sp__law_text_by K) := by
  refine A.ok sc__law_text_by (fun vs H Q E h => ?_) (fun f cdv A outer s H vs Q E hr h => ?_)
  · obtain ⟨a, ns, fl, rfl, _⟩ := h; rfl
  · obtain ⟨a, ns, fl, rfl, hS, hl, q⟩ := h
    refine ⟨_, (pss_cons (ps_set (i := 2) sc__law_text_by.nd rfl (Or.inl rfl) pe_str)
      (pss_cons (ps_for PassesOwn.never rfl (pi_list (pv 0)) (pg_name (i := 3) sc__law_text_by.nd rfl (Or.inr rfl))
      (pss_one (ps_if (pt_cmpR op_eq (pe_op op_mod (pv 3) pe_int) pe_int (nomark _)) (pss_one (ps_set (i := 2) sc__law_text_by.nd rfl (Or.inl rfl) (pe_op op_add_str (pv 2) (pe_op op_mulS pe_str (pe_op op_add pe_int (pe_op op_mod (pe_op op_fdiv (pv 3) pe_int) pe_int)))))) (pss_one (ps_if (pt_cmpR op_eq (pe_op op_mod (pv 3) pe_int) pe_int (nomark _)) (pss_one (ps_set (i := 2) sc__law_text_by.nd rfl (Or.inl rfl) (pe_op op_add_str (pv 2) (pe_op op_mulS pe_str (pe_op op_add pe_int (pe_op op_mul (pe_op op_mod (pe_op op_fdiv (pv 3) pe_int) pe_int) (pe_callTy call_int1 (by rfl) T.m_int (by decide +kernel) (pa_cons (pe_not (pv 1)) pa_nil)))))))) (pss_cons (ps_set (i := 4) sc__law_text_by.nd rfl (Or.inl rfl) (pe_op op_add (pe_op op_add pe_int (pe_op op_mod (pe_op op_fdiv (pv 3) pe_int) pe_int)) (pe_op op_mul (pe_op op_fdiv (pe_op op_mod (pe_op op_fdiv (pv 3) pe_int) pe_int) pe_int) (pe_op op_mod (pe_op op_fdiv (pv 3) pe_int) pe_int))))
      (pss_one (ps_set (i := 2) sc__law_text_by.nd rfl (Or.inl rfl) (pe_op op_add_str (pv 2) (pe_joinK K pe_str (pe_lc (own := [("_law_k", 5)]) (g := gName 5) (tt := tYes) rfl sc__law_text_by.nd (pi_range1 (by rfl) T.m_range (pa_cons (pv 4) pa_nil)) (blkOk_by (own := [("_law_k", 5)]) (N := N__law_text_by) (sc := defScope st__law_text_by) (by decide +kernel)) (fun _ _ _ _ _ => pg_name (i := 5) sc__law_text_by.nd rfl (Or.inl rfl)) (fun _ _ _ _ _ => pts_nil) (fun _ _ _ _ _ => (pe_cd G__law_sign_by (hr.mono (by decide)) pass0 (pa_cons (pe_op op_add (pe_op op_fdiv (pv 3) pe_int) (pe_op op_mul (pv 5) (pe_op op_mod (pe_op op_fdiv (pv 3) pe_int) pe_int))) pa_nil))))))))))))))
      (pss_one (ps_ret (pv 2))))), ?_⟩
    refine ⟨_, rfl, a, rfl, ⟨_, hS⟩, ?_⟩
    refine for_lst (f := V.int) (l := ns) (fun d r σ H3 => Same H H3 ∧ ∃ l y z u, σ = [some (.ref a), some (.bl fl), some (vt l), y, z, u] ∧ l.length ≤ 40 * d.length ∧ plainTx l) ?_ ?_ ?_ ?_
    · refine ⟨Same.refl H, [], none, none, none, ?_, by simp, fun c h => by cases h⟩
      rw [lit_nil]; rfl
    · rintro d r σ H3 ⟨sm, _⟩; exact sm.seq hS
    · rintro d c r σ H3 e ⟨sm, l, y, z, u, rfl, h1, h2⟩
      have hd : d.length < ns.length := by rw [e]; simp
      have add : ∀ (x : List Nat), plainTx x → plainTx (l ++ x) := fun x hx c hc => by
        rcases List.mem_append.mp hc with z | z
        · exact h2 c z
        · exact hx c z
      have rep : ∀ (x n : Nat), x < 1114112 → plainTx (List.replicate n [x]).flatten := fun x n hx c hc => by
        obtain ⟨y, hy, hc⟩ := List.mem_flatten.mp hc
        rw [(List.mem_replicate.mp hy).2] at hc
        rw [List.mem_singleton.mp hc]; exact hx
      have repl : ∀ (x n : Nat), (List.replicate n [x]).flatten.length = n := fun x n => by
        rw [List.length_flatten, List.map_replicate, List.sum_replicate_nat]; simp
      refine ⟨_, rfl, _, _, rfl, rfl, (show (0 : Int) < 3 by decide), rfl, _, rfl, tst (c := c % 3 = 0) dec_vi (fun n1 => ?_) (fun n1 => ?_)⟩
      · refine ⟨_, rfl, _, rfl, _, _, rfl, rfl, ⟨by decide, by decide⟩, _, _, rfl, rfl, (show (0 : Int) < 3 by decide), _, _, rfl, rfl, [32], 1 + c / 3 % 3, by rw [lit_sp], rfl, by omega, by omega, sz (by simp; omega), _, _, rfl, rfl, ?_, ?_⟩
        · rw [tx_len, tx_len, repl]; exact sz (by omega)
        · refine ⟨sm, l ++ (List.replicate (1 + c / 3 % 3).toNat [32]).flatten, _, _, _, by rw [tx_app]; rfl, ?_, add _ (rep _ _ (by decide))⟩
          rw [List.length_append, repl, List.length_append]; simp; omega
      · refine ⟨_, rfl, _, _, rfl, rfl, (show (0 : Int) < 3 by decide), rfl, _, rfl, tst (c := c % 3 = 1) dec_vi (fun n2 => ?_) (fun n2 => ?_)⟩
        · obtain ⟨v, hv⟩ : ∃ v : Int, (if (!fl) = true then (1 : Int) else 0) = v := ⟨_, rfl⟩
          have hv1 : v = 0 ∨ v = 1 := by rw [← hv]; split <;> omega
          refine ⟨_, rfl, _, rfl, _, _, rfl, rfl, ⟨by decide, by decide⟩, _, _, rfl, rfl, (show (0 : Int) < 3 by decide), _, rfl, _, rfl, .inr ⟨_, rfl, ?_⟩⟩
          rw [hv]
          obtain ⟨m, hm⟩ : ∃ m : Int, 1 + c / 3 % 3 * v = m := ⟨_, rfl⟩
          have hm1 : 1 ≤ m ∧ m ≤ 3 := by
            rcases hv1 with z | z <;> subst z <;> omega
          refine ⟨_, _, rfl, rfl, .inl ⟨by omega, by omega⟩, rI0_at (v := .int m) (congrArg V.int hm) ?_⟩
          refine ⟨[10], m, by rw [lit_nl], rfl, by omega, by omega, sz (by simp; omega), _, _, rfl, rfl, ?_, ?_⟩
          · rw [tx_len, tx_len, repl]; exact sz (by omega)
          · refine ⟨sm, l ++ (List.replicate m.toNat [10]).flatten, _, _, _, by rw [tx_app]; rfl, ?_, add _ (rep _ _ (by decide))⟩
            rw [List.length_append, repl, List.length_append]; simp; omega
        · -- a word
          refine ⟨_, rfl, _, _, rfl, rfl, ⟨by decide, by decide⟩, _, _, rfl, rfl, (show (0 : Int) < 5 by decide), _, _, rfl, rfl, ?_⟩
          refine ⟨_, rfl, _, _, rfl, rfl, ⟨by decide, by decide⟩, _, _, rfl, rfl, (show (0 : Int) < 8 by decide), _, _, rfl, rfl, ⟨by decide, by decide⟩, ?_⟩
          refine ⟨_, rfl, _, _, rfl, rfl, ⟨by decide, by decide⟩, _, _, rfl, rfl, (show (0 : Int) < 36 by decide), _, _, rfl, rfl, .inl ⟨by omega, by omega⟩, _, _, rfl, rfl, ?_⟩
          have hz : 1 ≤ 1 + c / 3 % 5 + c / 45 % 8 / 7 * (c / 360 % 36) ∧ 1 + c / 3 % 5 + c / 45 % 8 / 7 * (c / 360 % 36) ≤ 40 := by
            have h7 : c / 45 % 8 / 7 = 0 ∨ c / 45 % 8 / 7 = 1 := by omega
            rcases h7 with h7 | h7 <;> rw [h7] <;> omega
          obtain ⟨n, hn⟩ : ∃ n : Int, 1 + c / 3 % 5 + c / 45 % 8 / 7 * (c / 360 % 36) = n := ⟨_, rfl⟩
          rw [hn] at hz
          refine ⟨_, rfl, ⟨_, rfl⟩, _, rfl, n, by rw [← hn], by omega, by omega, fun D hD => ?_⟩
          refine lc_range (lo := 0) (n := n.toNat) (fun i H' => Same H3 H' ∧ ∃ ws, H' D = some (.lst (vts ws)) ∧ ws.length = i ∧ total ws = i ∧ ∀ x ∈ ws, plainTx x) ?_ ?_ ?_
          · exact ⟨(Same.refl H3).new hD, [], upd_same, rfl, rfl, fun _ z => nomatch z⟩
          · rintro i H' hi ⟨s5, ws, eD, e1, e2, e3⟩
            refine ⟨rfl, ?_⟩
            refine ⟨_, rfl, _, _, rfl, rfl, ⟨by decide, by decide⟩, _, rfl, _, rfl, _, _, rfl, rfl, ⟨by decide, by decide⟩, _, _, rfl, rfl, (show (0 : Int) < 7 by decide), _, _, rfl, rfl, .inr ⟨by omega, by omega⟩, _, _, rfl, rfl, _, rfl, ?_⟩
            have hs := sign_in (c / 15 + (0 + (i : Int)) * (c / 11 % 7))
            generalize sign (c / 15 + (0 + (i : Int)) * (c / 11 % 7)) = x at hs ⊢
            refine ⟨_, eD, by rw [List.length_map]; exact szl (by omega), s5.put hD, ws ++ [[x]], by rw [upd_same, vts_app], by simp [e1], ?_, ?_⟩
            · simp [total] at e2 ⊢; omega
            · intro y hy
              rcases List.mem_append.mp hy with z | z
              · exact e3 y z
              · rw [List.mem_singleton.mp z]
                intro c hc
                rw [List.mem_singleton.mp hc]; omega
          · rintro H' ⟨s5, ws, eD, e1, e2, e3⟩
            refine ⟨_, D, ws.map tx, rfl, rfl, .inl (.of (by rw [eD, List.map_map]; rfl)), ?_, ?_⟩
            · rw [lit_nil, tx_len, List.map_map]
              have : (ws.map ((fun x : Str => x.length) ∘ tx)).sum = total ws := by
                unfold total
                congr 1
                first | done | exact List.map_congr_left fun x _ => tx_len x
              simp only [List.length_nil, Nat.mul_zero] at this ⊢
              omega
            · rw [lit_nil, join_tx]
              have jl := jn_len [] ws
              simp only [List.length_nil, Nat.mul_zero] at jl
              refine ⟨_, _, rfl, rfl, ?_, ?_⟩
              · rw [tx_len, tx_len]; exact sz (by omega)
              · refine ⟨sm.trans s5, l ++ jn [] ws, _, _, _, by rw [tx_app]; rfl, ?_, add _ ?_⟩
                · simp only [List.length_append, List.length_cons, List.length_nil]; omega
                · intro c hc
                  obtain ⟨x, hx, hc⟩ := jn_mem hc
                  exact e3 x hx c hc
    · rintro σ H3 ⟨sm, l, y, z, u, rfl, h1, h2⟩
      exact ⟨_, rfl, q l H3 sm h1 h2⟩

def sp__law_parts : Sp := fun vs H Q _ => ∃ l : List Nat, vs = [vt l] ∧ l.length ≤ 400000 ∧
  ∀ H' p as, Same H H' → H p = none → H' p = some (.lst (vas as)) → LL H' as (parts l) → (∀ a ∈ as, H a = none) → Q (.ref p) H'
theorem ok__law_parts (A : At K mg "_law_parts" ["_law_signs"] st__law_parts) (T : Bts mg) :
    Ok P w K mg base CX0 1 "_law_parts" ["_law_signs"] sp__law_parts := by
  refine A.ok sc__law_parts (fun vs H Q E h => ?_) (fun f cdv A outer s H vs Q E hr h => ?_)
  · obtain ⟨l, rfl, _⟩ := h; rfl
  · obtain ⟨l, rfl, hl, q⟩ := h
    refine ⟨_, (pss_cons (ps_set (i := 1) sc__law_parts.nd rfl (Or.inl rfl) (pe_lst pa_nil))
      (pss_cons (ps_set (i := 2) sc__law_parts.nd rfl (Or.inl rfl) pe_str)
      (pss_cons (ps_set (i := 3) sc__law_parts.nd rfl (Or.inl rfl) (pe_lst (pa_cons pe_str (pa_cons pe_str pa_nil))))
      (pss_cons (ps_for PassesOwn.never rfl (pi_str (pe_op op_add_str (pv 0) pe_str)) (pg_name (i := 4) sc__law_parts.nd rfl (Or.inl rfl))
      (C8.pss_cut (ps_if (PW.pt (pw_and (pt_cmpR op_ne (pv 4) pe_str (nomark _)) (pw_and1 (pt_cmpR op_ne (pv 4) pe_str (nomark _))))) (C8.pss_cut (ps_if (PW.pt (pw_and (pt_cmpR op_eq (pv 2) pe_str (nomark _)) (pw_and1 (pt_cmpR op_ne (pe_ix (ix_listK K) (pv 3) pe_int (fun _ _ => rfl)) pe_str (nomark _))))) (pss_one (ps_expr (pe_bm PySem.F.plainAttrs_list PySem.F.slot_list_append PySem.F.type_list_append mt_append (pv 1) (pa_cons (pe_lst pa_nil) pa_nil)))) pss_nil)
      (pss_cons (ps_set (i := 2) sc__law_parts.nd rfl (Or.inl rfl) (pe_op op_add_str (pv 2) (pv 4)))
      (pss_cons (ps_asg pe_str (pg_sub (pv 3) pe_int set_list))
      (pss_one (ps_asg pe_str (pg_sub (pv 3) pe_int set_list)))))) (pss_one (ps_if (pt_cmpR op_ne (pv 2) pe_str (nomark _)) (pss_cons (ps_expr (pe_bm PySem.F.plainAttrs_list PySem.F.slot_list_append PySem.F.type_list_append mt_append (pe_ix (ix_listK K) (pv 1) (pe_un un_neg pe_int) (fun _ _ => rfl)) (pa_cons (pv 2) pa_nil)))
      (pss_one (ps_set (i := 2) sc__law_parts.nd rfl (Or.inl rfl) pe_str))) pss_nil)))
      (pss_one (ps_if (pt_cmpR op_eq (pv 4) pe_str (nomark _)) (C8.pss_cut (ps_if (pt_cmpR op_ne (pe_ix (ix_listK K) (pv 3) pe_int (fun _ _ => rfl)) pe_str (nomark _)) (pss_one (ps_asg pe_str (pg_sub (pv 3) pe_int set_list))) pss_nil)
      (pss_one (ps_asg pe_str (pg_sub (pv 3) pe_int set_list)))) pss_nil))))
      (pss_one (ps_ret (pv 1))))))), ?_⟩
    refine ⟨Nat.zero_le _, fun o no => ?_⟩
    refine ⟨sz (by simp), fun la nla => ?_⟩
    have lo : la ≠ o := fun e => by rw [e, upd_same] at nla; cases nla
    have s0 := (Same.refl H).new (o := HO.lst []) no
    have nl : H la = none := s0.free nla
    have s1 := s0.new (o := HO.lst [V.str (PySem.Str.ofString ""), V.str (PySem.Str.ofString "")]) nla
    refine ⟨_, rfl, _, _, rfl, rfl, ?_, tx (l ++ [10]), ?_, ?_⟩
    · rw [lit_nl, tx_len, tx_len]; exact sz (by simp; omega)
    · rw [lit_nl, tx_app]
    refine for_txt (l := l ++ [10]) (fun d r σ H3 => ∃ C h as held w y, σ = [some (vt l), some (.ref o), some (vt held), some (.ref la), y] ∧ PH H H3 o la as C h held w ∧
      C ++ go h w held r = parts l ∧ as.length + r.length ≤ l.length + 2 ∧ held.length + r.length ≤ l.length + 2 ∧ h.length + r.length ≤ l.length + 2 ∧ (r = [] → held = [])) ?_ ?_ ?_
    · refine ⟨[], [], [], [], false, none, ?_, ⟨s1, ?_, LL.nil, ?_, (fun a z => nomatch z), List.nodup_nil, fun z => absurd rfl z⟩, ?_, by simp, by simp, by simp, fun _ => rfl⟩
      · rw [lit_nil]; rfl
      · rw [upd_ne (Ne.symm lo), upd_same]; rfl
      · rw [upd_same, lit_nil]; rfl
      · rw [go_nl]; exact go_parts l
    · rintro d c t σ H3 e ⟨C, h, as, held, w, y, rfl, p, ep, l1, l2, l3, lz⟩
      simp only [List.length_cons] at l1 l2 l3
      have nlast : t = [] → c = 10 := fun z => by subst z; exact (last_eq e).symm
      -- what follows the first if
      refine ⟨fun σ H' => ∃ C h as held w, σ = [some (vt l), some (.ref o), some (vt held), some (.ref la), some (vt [c])] ∧ PH H H' o la as C h held w ∧ (c = 10 → held = []) ∧
        C ++ (if c = 10 then (if w = false ∧ h ≠ [] then h :: go [] false [] t else go h false [] t) else go h w held t) = parts l ∧
        as.length + t.length ≤ l.length + 2 ∧ held.length + t.length ≤ l.length + 2 ∧ h.length + t.length ≤ l.length + 2, ?_, ?_⟩
      · have blank : (c = 32 ∨ c = 10) → (h2 : List (List Nat)) → h2 = h ++ (if held = [] then [] else [held]) →
            C ++ (if c = 10 then (if w = false ∧ h2 ≠ [] then h2 :: go [] false [] t else go h2 false [] t) else go h2 w [] t) = parts l := fun hc h2 e2 => by
          rw [← ep]
          congr 1
          simp only [go]
          by_cases c1 : c = 10
          · rw [if_pos c1, if_pos c1]
            by_cases v0 : held = []
            · subst v0
              have e3 : h2 = h := by rw [e2]; simp
              rw [e3]
              by_cases c2 : w = false ∧ h ≠ []
              · rw [if_pos c2, if_pos ⟨rfl, c2⟩]
              · rw [if_neg c2, if_neg (fun z => c2 z.2), if_pos rfl, List.append_nil]
            · have hw := p.hw v0
              rw [if_neg (fun z => by rw [hw] at z; exact Bool.noConfusion z.1), if_neg (fun z => v0 z.1), ← e2]
          · rw [if_neg c1, if_neg c1, if_pos (hc.resolve_right c1), ← e2]
        refine ans_and2 (ans_ne (val_var rfl) val_c rfl rfl) (ans_ne (val_var rfl) val_c rfl rfl) _ ?_
        refine tsn (c := c = 32 ∨ c = 10) two_ne (fun nb => ?_) (fun hb => ?_)
        · -- a sign of a word
          refine ⟨fun σ H' => ∃ as, σ = [some (vt l), some (.ref o), some (vt held), some (.ref la), some (vt [c])] ∧ Same H H' ∧ H' o = some (.lst (vas as)) ∧ LL H' as (C ++ [h]) ∧
            (∃ u v, H' la = some (.lst [u, v])) ∧ (∀ a ∈ as, H a = none ∧ a ≠ o ∧ a ≠ la) ∧ as.Nodup ∧ as.length + t.length ≤ l.length + 2, ?_, ?_⟩
          · refine ans_and2 (ans_eq (val_var rfl) val_c rfl rfl) (ans_ne (b := !decide (vt (rd (decide (h ≠ [] ∨ held ≠ []))) = V.str (PySem.Str.ofString "row"))) (x := vt (rd (decide (h ≠ [] ∨ held ≠ [])))) (fun Q q => ⟨_, rfl, la, _, 1, _, rfl, rfl, .of p.el, atI_nat (j := 1) rfl, q⟩) val_c rfl rfl) _ ?_
            rw [eq_vt lit_nil, ne_rd]
            by_cases hc : h ≠ [] ∨ held ≠ []
            · have e2 : (decide (held = []) && !decide (decide (h ≠ [] ∨ held ≠ []) = true)) = false := by simp [hc]
              rw [e2]
              refine iteF ⟨as, rfl, p.sm, p.eo, ?_, ⟨_, _, p.el⟩, p.ha, p.nd, by omega⟩
              have := p.ll
              rw [if_pos hc] at this
              exact this
            · have e0 : h = [] ∧ held = [] := by
                refine ⟨Decidable.byContradiction fun z => hc (.inl z), Decidable.byContradiction fun z => hc (.inr z)⟩
              have e2 : (decide (held = []) && !decide (decide (h ≠ [] ∨ held ≠ []) = true)) = true := by simp [e0]
              rw [e2]
              refine iteT ?_
              have LLC := p.ll
              rw [if_neg hc] at LLC
              refine ⟨_, rfl, .inl ⟨rfl, _, .of p.eo⟩, Nat.zero_le _, fun z nz => ?_⟩
              refine ⟨o, _, _, rfl, rfl, kept p.eo nz, ?_, ?_⟩
              · rw [List.length_map]; exact szl (by omega)
              · have zo : z ≠ o := fun x => by rw [x, p.eo] at nz; cases nz
                have zl : z ≠ la := fun x => by rw [x, p.el] at nz; cases nz
                have nH : H z = none := p.sm.free nz
                have nas : z ∉ as := LLC.lt nz
                have ko : ∀ {a o'}, a ≠ o → H3 a = some o' → (upd (upd H3 z (.lst [])) o (.lst (vas as ++ [.ref z]))) a = some o' := fun n x => by rw [upd_ne n]; exact kept x nz
                refine ⟨as ++ [z], rfl, (p.sm.new nz).put no, by rw [vas_app]; exact upd_same, ?_, ⟨_, _, ko lo p.el⟩, ?_, ?_, by simp; omega⟩
                · rw [e0.1]
                  refine LL.snoc (LLC.keep fun a x o' e' => ko (p.ha a x).2.1 e') ?_
                  rw [upd_ne zo, upd_same]; rfl
                · intro a x
                  rcases List.mem_append.mp x with x | x
                  · exact p.ha a x
                  · rw [List.mem_singleton.mp x]; exact ⟨nH, zo, zl⟩
                · rw [List.nodup_append]
                  refine ⟨p.nd, by simp, fun a x b y => ?_⟩
                  rw [List.mem_singleton.mp y]
                  intro z2; rw [z2] at x; exact nas x
          · rintro σ H4 ⟨as, rfl, s4, eo, L4, ⟨u, v, el⟩, ha, nd, l4⟩
            refine ⟨_, rfl, _, rfl, _, _, rfl, rfl, ?_, ?_⟩
            · rw [tx_len, tx_len]; exact sz (by simp; omega)
            refine ⟨_, rfl, la, _, 1, 1, rfl, rfl, el, rfl, ?_⟩
            refine ⟨_, rfl, la, _, 0, 0, rfl, rfl, upd_same, rfl, ?_⟩
            rw [upd_upd]
            have kl : ∀ {a o' x}, a ≠ la → H4 a = some o' → (upd H4 la x) a = some o' := fun n x => by rw [upd_ne n]; exact x
            refine ⟨C, h, as, held ++ [c], true, by rw [tx_app]; rfl, ⟨s4.put nl, kl (Ne.symm lo) eo, ?_, ?_, ha, nd, fun _ => rfl⟩, fun z => absurd (.inr z) nb, ?_, l4, by simp; omega, by omega⟩
            · rw [if_pos (.inr (by simp))]
              exact L4.keep fun a x o' e' => kl (ha a x).2.2 e'
            · rw [upd_same]
              have e3 : decide (h ≠ [] ∨ held ++ [c] ≠ []) = true := by simp
              rw [e3, lit_row, lit_word]; rfl
            · rw [if_neg (fun z => nb (.inr z)), ← ep]
              simp only [go]
              rw [if_neg (fun z => nb (.inr z)), if_neg (fun z => nb (.inl z))]
        · refine ⟨_, rfl, rfl, _, rfl, tsn (c := held = []) (ne_vt lit_nil) (fun v1 => ?_) (fun v0 => ?_)⟩
          · have hc : h ≠ [] ∨ held ≠ [] := .inr v1
            have L := p.ll
            rw [if_pos hc] at L
            obtain ⟨as0, a, ea, eh, L2⟩ := L.last (h2 := h ++ [held]) p.nd
            have am : a ∈ as := by rw [ea]; simp
            obtain ⟨na, ao, al⟩ := p.ha a am
            refine ⟨_, rfl, 1, rfl, o, _, _, .ref a, rfl, rfl, .of p.eo, ?_, ?_⟩
            · rw [ea, vas_app]; exact atI_last _ _
            refine ⟨.inl ⟨rfl, _, .of eh⟩, _, rfl, a, _, _, rfl, rfl, eh, ?_, ?_⟩
            · rw [List.length_map]; exact szl (by omega)
            refine ⟨C, h ++ [held], as, [], w, by rw [lit_nil]; rfl, ⟨p.sm.put na, ?_, ?_, ?_, p.ha, p.nd, fun z => absurd rfl z⟩, fun _ => rfl, ?_, by omega, by simp; omega, by simp; omega⟩
            · rw [upd_ne (Ne.symm ao)]; exact p.eo
            · rw [if_pos (.inl (by simp)), ← vts_app]; exact L2
            · rw [upd_ne (Ne.symm al), p.el]
              have e3 : decide (h ++ [held] ≠ [] ∨ ([] : List Nat) ≠ []) = decide (h ≠ [] ∨ held ≠ []) := by simp [v1]
              rw [e3]
            · refine blank hb (h ++ [held]) ?_
              rw [if_neg v1]
          · subst v0
            refine ⟨C, h, as, [], w, rfl, ⟨p.sm, p.eo, p.ll, p.el, p.ha, p.nd, p.hw⟩, fun _ => rfl, ?_, by omega, by simp; omega, by omega⟩
            refine blank hb h ?_
            simp
      · rintro σ H4 ⟨C, h, as, held, w, rfl, p, c10, ep, l1, l2, l3⟩
        -- a line end
        refine ⟨_, rfl, rfl, _, rfl, tst (c := c = 10) (eq_sg lit_nl) (fun e10 => ?_) (fun n10 => ?_)⟩
        · have h0 := c10 e10
          subst h0
          rw [if_pos e10] at ep
          refine ⟨fun σ H' => ∃ C h, σ = [some (vt l), some (.ref o), some (vt []), some (.ref la), some (vt [c])] ∧ PH H H' o la as C h [] w ∧
            C ++ go h false [] t = parts l ∧ h.length + t.length ≤ l.length + 2, ?_, ?_⟩
          · refine ⟨_, rfl, la, _, 0, _, rfl, rfl, .of p.el, atI_nat (j := 0) rfl, rfl, _, rfl, tsn (c := w = true) ne_wd (fun w0 => ?_) (fun w1 => ?_)⟩
            · have w0' : w = false := by simpa using w0
              refine ⟨_, rfl, la, _, 1, 1, rfl, rfl, p.el, rfl, ?_⟩
              have kl : ∀ {a o' x}, a ≠ la → H4 a = some o' → (upd H4 la x) a = some o' := fun n x => by rw [upd_ne n]; exact x
              have ll : LL (upd H4 la (.lst ([vt (wd w), vt (rd (decide (h ≠ [] ∨ ([] : List Nat) ≠ [])))].set 1 (V.str (PySem.Str.ofString ""))))) as (if h ≠ [] ∨ ([] : List Nat) ≠ [] then C ++ [h] else C) :=
                p.ll.keep fun a x o' e' => kl (p.ha a x).2.2 e'
              refine ⟨if h = [] then C else C ++ [h], [], rfl, ⟨p.sm.put nl, kl (Ne.symm lo) p.eo, ?_, ?_, p.ha, p.nd, p.hw⟩, ?_, by simp; omega⟩
              · rw [if_neg (by simp)]
                by_cases h0 : h = []
                · rw [if_pos h0]; rw [if_neg (by simp [h0])] at ll; exact ll
                · rw [if_neg h0]; rw [if_pos (.inl h0)] at ll; exact ll
              · rw [upd_same, lit_nil]; rfl
              · rw [← ep]
                by_cases h0 : h = []
                · rw [if_pos h0, if_neg (fun z => z.2 h0), h0]
                · rw [if_neg h0, if_pos ⟨w0', h0⟩, List.append_assoc]; rfl
            · refine ⟨C, h, rfl, p, ?_, by omega⟩
              rw [← ep, if_neg (fun z => by rw [w1] at z; exact Bool.noConfusion z.1)]
          · rintro σ H5 ⟨C, h, rfl, p, ep, l5⟩
            refine ⟨_, rfl, la, _, 0, 0, rfl, rfl, p.el, rfl, ?_⟩
            have kl : ∀ {a o' x}, a ≠ la → H5 a = some o' → (upd H5 la x) a = some o' := fun n x => by rw [upd_ne n]; exact x
            refine ⟨C, h, as, [], false, some (vt [c]), rfl, ⟨p.sm.put nl, kl (Ne.symm lo) p.eo, p.ll.keep fun a x o' e' => kl (p.ha a x).2.2 e', ?_, p.ha, p.nd, fun z => absurd rfl z⟩, ep, by omega, by simp; omega, by omega, fun _ => rfl⟩
            rw [upd_same, lit_nil]; rfl
        · rw [if_neg n10] at ep
          exact ⟨C, h, as, held, w, some (vt [c]), rfl, p, ep, by omega, by omega, by omega, fun z => absurd (nlast z) n10⟩
    · rintro σ H3 ⟨C, h, as, held, w, y, rfl, p, ep, l1, l2, l3, lz⟩
      have h0 := lz rfl
      subst h0
      refine ⟨_, rfl, q H3 o as p.sm no p.eo ?_ (fun a z => (p.ha a z).1)⟩
      have := p.ll
      rw [← ep]
      by_cases z : h = []
      · rw [if_neg (by simp [z])] at this; simpa [go, z] using this
      · rw [if_pos (.inl z)] at this; simpa [go, z] using this

def sp__law_whole : Sp := fun vs H Q _ => ∃ n : Int, vs = [.int n] ∧ Q (.bl true) H
theorem ok__law_whole (A : At K mg "_law_whole" ["_law_found"] st__law_whole) (T : Bts mg) : Ok P w K mg base CX0 1 "_law_whole" ["_law_found"] sp__law_whole := by
  refine A.ok sc__law_whole (fun vs H Q E h => ?_) (fun f cdv A outer s H vs Q E hr h => ?_)
  · obtain ⟨n, rfl, _⟩ := h; rfl
  · obtain ⟨n, rfl, q⟩ := h
    refine ⟨_, (pss_one (ps_ret (pe_and (pe_callB call_isi (by rfl) T.m_isinstance (by decide +kernel) (pa_cons (pv 0) (pa_cons (pe_bltn (v := .ty "int") (u := .type "int") (by rfl) T.m_int (by decide +kernel) rfl) pa_nil))) (pe_one (pe_not (pe_callB call_isi (by rfl) T.m_isinstance (by decide +kernel) (pa_cons (pv 0) (pa_cons (pe_bltn (v := .ty "bool") (u := .type "bool") (by rfl) T.m_bool (by decide +kernel) rfl) pa_nil)))))))), ?_⟩
    refine ⟨_, rfl, _, .ty "int", _, _, true, rfl, .ty "int", .base (.int _), kit_ty (by decide +kernel), true, rfl, iteT ?_⟩
    exact ⟨_, rfl, _, .ty "bool", _, _, false, rfl, .ty "bool", .base (.int _), kit_ty (by decide +kernel), false, rfl, q⟩

def sp__law_wholes (K : PySem.W.Frag) : Sp := fun vs H Q _ => ∃ (a : Addr) (ns : List Int), vs = [.ref a] ∧ H a = some (.lst (vis ns)) ∧ Q (.bl true) H
theorem ok__law_wholes (A : At K mg "_law_wholes" ["_law_found"] st__law_wholes) (T : Bts mg) (G__law_whole : Ok P w K mg base CX0 1 "_law_whole" ["_law_found"] sp__law_whole) :
    Ok P w K mg base CX0 2 "_law_wholes" ["_law_found"] (sp__law_wholes K) := by
  refine A.ok sc__law_wholes (fun vs H Q E h => ?_) (fun f cdv A outer s H vs Q E hr h => ?_)
  · obtain ⟨a, ns, rfl, _⟩ := h; rfl
  · obtain ⟨a, ns, rfl, ha, q⟩ := h
    refine ⟨_, (pss_cons (ps_if (pt_not (pt_val (pe_callB call_isi (by rfl) T.m_isinstance (by decide +kernel) (pa_cons (pv 0) (pa_cons (pe_bltn (v := .ty "list") (u := .type "list") (by rfl) T.m_list (by decide +kernel) rfl) pa_nil))))) (pss_one (ps_ret pe_bl)) pss_nil)
      (pss_cons (ps_for PassesOwn.never rfl (pi_list (pv 0)) (pg_name (i := 1) sc__law_wholes.nd rfl (Or.inl rfl))
      (pss_one (ps_if (pt_not (pt_val (pe_cd G__law_whole (hr.mono (by decide)) pass0 (pa_cons (pv 1) pa_nil)))) (pss_one (ps_ret pe_bl)) pss_nil)))
      (pss_one (ps_ret pe_bl)))), ?_⟩
    refine ⟨_, rfl, .ref a, .ty "list", _, _, true, rfl, .ty "list", .base (.lst ha), kit_ty (by decide +kernel), true, rfl, iteF ?_⟩
    refine ⟨_, rfl, a, rfl, ⟨_, .of ha⟩, ?_⟩
    refine for_lst (f := V.int) (l := ns) (fun d r σ H3 => H3 = H ∧ ∃ y, σ = [some (.ref a), y]) ⟨rfl, none, rfl⟩ ?_ ?_ ?_
    · rintro d r σ H3 ⟨rfl, _⟩; exact .of ha
    · rintro d x r σ H3 e ⟨rfl, y, rfl⟩
      exact ⟨_, rfl, x, rfl, _, rfl, iteF ⟨rfl, _, rfl⟩⟩
    · rintro σ H3 ⟨rfl, y, rfl⟩
      exact q

def sp__law_size (K : PySem.W.Frag) : Sp := fun vs H Q _ => ∃ (p : Addr) (ws : List (List Nat)) (a b : Nat), vs = [.ref p, .int a, .int b] ∧ SqL K H p (vts ws) ∧ Bw ws ∧
  ∀ H', Same H H' → Q (.int (size ws a b : Nat)) H'
theorem ok__law_size (A : At K mg "_law_size" ["_law_row", "_law_begin", "_law_end"] st__law_size) (T : Bts mg) : Ok P w K mg base CX0 1 "_law_size" ["_law_row", "_law_begin", "_law_end"] (sp__law_size K) := by
  refine A.ok sc__law_size (fun vs H Q E h => ?_) (fun f cdv A outer s H vs Q E hr h => ?_)
  · obtain ⟨p, ws, a, b, rfl, _⟩ := h; rfl
  · obtain ⟨p, ws, a, b, rfl, hS, hw, q⟩ := h
    refine ⟨_, (pss_one (ps_ret (pe_callB call_len_str (by rfl) T.m_len PySem.boot_len (pa_cons (pe_joinK K pe_str (pe_slice (sl_listK K) (pv 0) (po_some (pv 1)) (po_some (pv 2)))) pa_nil)))), ?_⟩
    refine ⟨⟨_, rfl⟩, _, rfl, _, rfl, a, rfl, _, rfl, b, rfl, p, _, rfl, hS, fun c nc => ?_⟩
    have ec : cutV (vts ws) (some (a : Int)) (some (b : Int)) = vts (seg ws a b) := cut_ft vt ws a b
    have hb := hw.size a b
    have t1 := total_seg ws a b
    have t2 := seg_le ws a b
    have t3 := hw.tot
    have t4 := hw.le
    refine ⟨_, c, (seg ws a b).map tx, rfl, rfl, .inl (.of (by rw [upd_same, ec, map_vt])), ?_, ?_⟩
    · rw [sum_tx, lit_sp, tx_len, List.length_map]
      simp only [List.length_cons, List.length_nil]
      omega
    · rw [lit_sp, join_tx]
      refine ⟨_, rfl, by rw [tx_len, jn_sp]; exact sz (by unfold size at hb; omega), ?_⟩
      rw [tx_len, jn_sp]
      exact q _ ((Same.refl H).new nc)

def sp__law_are_starts (K : PySem.W.Frag) : Sp := fun vs H Q _ => ∃ (p o : Addr) (ws : List (List Nat)) (n : Int) (ks : List Nat), vs = [.ref p, .int n, .ref o] ∧ SqL K H p (vts ws) ∧ H o = some (.lst (vis (toI ks))) ∧ Bw ws ∧ Fc ws n 0 ks ∧
  ∀ H', Same H H' → Q (.bl true) H'
theorem ok__law_are_starts (A : At K mg "_law_are_starts" ["_law_row", "_law_width", "_law_found"] st__law_are_starts) (T : Bts mg) (G__law_wholes : Ok P w K mg base CX0 2 "_law_wholes" ["_law_found"] (sp__law_wholes K))
    (G__law_size : Ok P w K mg base CX0 1 "_law_size" ["_law_row", "_law_begin", "_law_end"] (sp__law_size K)) :
    Ok P w K mg base CX0 3 "_law_are_starts" ["_law_row", "_law_width", "_law_found"] (sp__law_are_starts K) := by
  refine A.ok sc__law_are_starts (fun vs H Q E h => ?_) (fun f cdv A outer s H vs Q E hr h => ?_)
  · obtain ⟨p, o, ws, n, ks, rfl, _⟩ := h; rfl
  · obtain ⟨p, o, ws, n, ks, rfl, hS, eo, hw, hf, q⟩ := h
    refine ⟨_, (pss_cons (ps_if (pt_not (pt_val (pe_cd G__law_wholes (hr.mono (by decide)) pass0 (pa_cons (pv 2) pa_nil)))) (pss_one (ps_ret pe_bl)) pss_nil)
      (pss_cons (ps_set (i := 3) sc__law_are_starts.nd rfl (Or.inl rfl) (pe_op op_cat (pe_slice (sl_listK K) (pv 2) (po_some pe_int) po_none) (pe_lst (pa_cons (pe_callB (call_lenK K) (by rfl) T.m_len PySem.boot_len (pa_cons (pv 0) pa_nil)) pa_nil))))
      (pss_cons (ps_if (pt_cmpR (op_eqL hr) (pv 2) (pe_lst pa_nil) (nomark _)) (pss_one (ps_ret (pe_cmpR (op_eqL hr) (pv 0) (pe_lst pa_nil) (nomark _)))) pss_nil)
      (pss_cons (ps_if (pt_cmpR op_ne (pe_ix (ix_listK K) (pv 2) pe_int (fun _ _ => rfl)) pe_int (nomark _)) (pss_one (ps_ret pe_bl)) pss_nil)
      (pss_cons (ps_for PassesOwn.never rfl (pi_range1 (by rfl) T.m_range (pa_cons (pe_callB (call_lenK K) (by rfl) T.m_len PySem.boot_len (pa_cons (pv 2) pa_nil)) pa_nil)) (pg_name (i := 4) sc__law_are_starts.nd rfl (Or.inl rfl))
      (pss_one (ps_if (PW.pt (pw_or (pt_not (pt_cmpR op_lt (pe_ix (ix_listK K) (pv 2) (pv 4) (fun _ _ => rfl)) (pe_ix (ix_listK K) (pv 3) (pv 4) (fun _ _ => rfl)) (nomark _))) (pw_or1 (pt_cmpR op_gt (pe_cd G__law_size (hr.mono (by decide)) pass0 (pa_cons (pv 0) (pa_cons (pe_ix (ix_listK K) (pv 2) (pv 4) (fun _ _ => rfl)) (pa_cons (pe_ix (ix_listK K) (pv 3) (pv 4) (fun _ _ => rfl)) pa_nil)))) (pv 1) (nomark _))))) (pss_one (ps_ret pe_bl)) pss_nil)))
      (pss_one (ps_ret pe_bl))))))), ?_⟩
    have hc := hf.ch
    have hl := hc.len
    have hle := hw.le
    refine ⟨_, rfl, o, toI ks, rfl, eo, _, rfl, iteF ?_⟩
    refine ⟨_, rfl, 1, rfl, o, _, rfl, .of eo, fun c nc => ?_⟩
    have s2 := (Same.refl H).new (o := HO.lst (cutV (vis (toI ks)) (some 1) none)) nc
    have ec : (upd H c (HO.lst (cutV (vis (toI ks)) (some 1) none))) c = some (.lst (vis ((toI ks).drop 1))) := by
      rw [upd_same]; exact congrArg some (congrArg HO.lst (cut_from V.int (toI ks) 1))
    generalize upd H c (HO.lst (cutV (vis (toI ks)) (some 1) none)) = H2 at s2 ec ⊢
    refine ⟨_, rfl, p, _, rfl, .inl (s2.seq hS), sz (by simp), fun d nd => ?_⟩
    have s3 := s2.new (o := HO.lst [V.int ((vts ws).length : Nat)]) nd
    have ed : (upd H2 d (HO.lst [V.int ((vts ws).length : Nat)])) d = some (.lst [V.int ((vts ws).length : Nat)]) := upd_same
    have ec3 := kept ec nd (o := HO.lst [V.int ((vts ws).length : Nat)])
    generalize upd H2 d (HO.lst [V.int ((vts ws).length : Nat)]) = H3 at s3 ed ec3 ⊢
    refine ⟨c, d, _, _, rfl, rfl, ec3, ed, sz (by rw [List.length_map, List.length_drop, toI_length]; simp; omega), fun g ng => ?_⟩
    have eg : vis ((toI ks).drop 1) ++ [V.int ((vts ws).length : Nat)] = vis (toI (ks.drop 1 ++ [ws.length])) := by rw [List.length_map]; exact ends_vis ks ws.length
    rw [eg]
    have s4 := s3.new (o := HO.lst (vis (toI (ks.drop 1 ++ [ws.length])))) ng
    have eg4 : (upd H3 g (HO.lst (vis (toI (ks.drop 1 ++ [ws.length]))))) g = some (.lst (vis (toI (ks.drop 1 ++ [ws.length])))) := upd_same
    generalize upd H3 g (HO.lst (vis (toI (ks.drop 1 ++ [ws.length])))) = H4 at s4 eg4 ⊢
    refine ⟨_, rfl, sz (by simp), fun e ne => ?_⟩
    have s5 := s4.new (o := HO.lst []) ne
    have eg5 := kept eg4 ne (o := HO.lst [])
    have ee : (upd H4 e (HO.lst [])) e = some (.lst []) := upd_same
    generalize upd H4 e (HO.lst []) = H5 at s5 eg5 ee ⊢
    have eo5 := s5 _ _ eo
    refine ⟨o, e, _, _, rfl, rfl, .of eo5, .of ee, flat_vis _, rfl, _, rfl, tst (c := ks = []) (by simp only [decide_eq_decide]; unfold toI; rw [List.map_eq_nil_iff, List.map_eq_nil_iff]) (fun h1 => ?_) (fun h1 => ?_)⟩
    · subst h1
      have h0 : 0 = ws.length := hc
      have hw0 : ws = [] := List.length_eq_zero_iff.mp h0.symm
      subst hw0
      refine ⟨_, rfl, sz (by simp), fun d2 nd2 => ?_⟩
      refine ⟨p, d2, _, _, rfl, rfl, (s5.new nd2).seq hS, .of upd_same, rfl, rfl, ?_⟩
      rw [show decide (vts [] = []) = true from rfl]
      exact q _ (s5.new nd2)
    · obtain ⟨b, r, rfl⟩ : ∃ b r, ks = b :: r := by
        cases ks with
        | nil => exact absurd rfl h1
        | cons b r => exact ⟨b, r, rfl⟩
      have hb0 : b = 0 := hc.1
      subst hb0
      refine ⟨_, rfl, o, _, _, _, rfl, rfl, .of eo5, atI_nat (j := 0) rfl, rfl, _, rfl, tsn (c := True) (by simp) (fun z => absurd trivial z) (fun _ => ?_)⟩
      refine ⟨_, rfl, o, _, rfl, .inl (.of eo5), (0 :: r).length, by rw [List.length_map, toI_length], by omega, by omega, ?_⟩
      refine for_range (n := (0 :: r).length) (fun i σ H' => Same H5 H' ∧ ∃ z, σ = [some (.ref p), some (.int n), some (.ref o), some (.ref g), z]) ?_ ?_ ?_
      · exact ⟨Same.refl _, none, rfl⟩
      · rintro i σ H' hi ⟨s6, z, rfl⟩
        have e0 : (0 + (i : Int)) = (i : Int) := by omega
        have hp : i < (pairs ws.length (0 :: r)).length := by rw [pairs_length]; exact hi
        obtain ⟨pp, hpp⟩ : ∃ pp, (pairs ws.length (0 :: r))[i]? = some pp := ⟨_, List.getElem?_eq_getElem hp⟩
        have hm := List.mem_of_getElem? hpp
        obtain ⟨_, m1, m2⟩ := hc.pairs pp hm
        have m3 := hf.fits pp hm
        obtain ⟨g1, g2⟩ := pairs_get hpp
        have f1 : (vis (toI (0 :: r)))[i]? = some (V.int (pp.1 : Nat)) := flat_get (toI_get g1)
        have f2 : (vis (toI ((0 :: r).drop 1 ++ [ws.length])))[i]? = some (V.int (pp.2 : Nat)) := flat_get (toI_get g2)
        have eo6 := s6 _ _ eo5
        have eg6 := s6 _ _ eg5
        refine ⟨_, rfl, _, rfl, o, _, _, _, rfl, rfl, .of eo6, at_of e0 f1, _, rfl, _, rfl, g, _, _, _, rfl, rfl, .of eg6, at_of e0 f2, _, _, rfl, rfl, _, rfl, ?_⟩
        rw [decide_eq_true (show ((pp.1 : Nat) : Int) < (pp.2 : Nat) by omega)]
        refine ⟨_, rfl, _, rfl, _, rfl, o, _, _, _, rfl, rfl, .of eo6, at_of e0 f1, _, rfl, _, rfl, g, _, _, _, rfl, rfl, .of eg6, at_of e0 f2, p, ws, pp.1, pp.2, rfl, (s5.trans s6).seq hS, hw, fun H7 s7 => ?_⟩
        refine ⟨_, rfl, _, _, rfl, rfl, _, rfl, ?_⟩
        rw [decide_eq_false (show ¬ n < ((size ws pp.1 pp.2 : Nat) : Int) by omega)]
        refine iteF ⟨s6.trans s7, some (.int (0 + (i : Int))), rfl⟩
      · rintro σ H' ⟨s6, z, rfl⟩
        exact q _ (s5.trans s6)

theorem spr_rest (ws : List (List Nat)) (wd : Nat) (i : Nat) (hi : i < ws.length) (rest : Nat → List Nat)
    (hr : ∀ i, rest i = match ws.drop i with | [] => [] | x :: r => x ++ sprTail (wd - lsz ws) (ws.length - 1) i r) :
    rest i = ws[i] ++ (if i + 1 < ws.length then List.replicate (gap (wd - lsz ws) (ws.length - 1) i) 32 else []) ++ rest (i + 1) := by
  rw [hr i, List.drop_eq_getElem_cons hi]
  show ws[i] ++ sprTail _ _ i (ws.drop (i + 1)) = _
  by_cases h : i + 1 < ws.length
  · rw [if_pos h, hr (i + 1), List.drop_eq_getElem_cons h]
    simp [sprTail]
  · rw [if_neg h, hr (i + 1), List.drop_of_length_le (by omega)]
    simp [sprTail]
def sp__law_spread (K : PySem.W.Frag) : Sp := fun vs H Q _ => ∃ (p : Addr) (ws : List (List Nat)) (wd : Nat), vs = [.ref p, .int wd] ∧ SqL K H p (vts ws) ∧ Bw ws ∧ lsz ws ≤ wd ∧ wd ≤ 5000000 ∧
  ∀ H', Same H H' → Q (vt (spr ws wd)) H'
theorem ok__law_spread (A : At K mg "_law_spread" ["_law_row", "_law_width"] st__law_spread) (T : Bts mg) : Ok P w K mg base CX0 1 "_law_spread" ["_law_row", "_law_width"] (sp__law_spread K) := by
  refine A.ok sc__law_spread (fun vs H Q E h => ?_) (fun f cdv A outer s H vs Q E hr h => ?_)
  · obtain ⟨p, ws, wd, rfl, _⟩ := h; rfl
  · obtain ⟨p, ws, wd, rfl, hS, hw, b1, b3, q⟩ := h
    refine ⟨_, (pss_cons (ps_set (i := 2) sc__law_spread.nd rfl (Or.inl rfl) (pe_op op_sub (pv 1) (pe_callB (cr_sum rfl) (by rfl) T.m_sum (by decide +kernel) (pa_cons (pe_lc (own := [("_law_word", 5)]) (g := gName 5) (tt := tYes) rfl sc__law_spread.nd (pi_list (pv 0)) (blkOk_by (own := [("_law_word", 5)]) (N := N__law_spread) (sc := defScope st__law_spread) (by decide +kernel)) (fun _ _ _ _ _ => pg_name (i := 5) sc__law_spread.nd rfl (Or.inl rfl)) (fun _ _ _ _ _ => pts_nil) (fun _ _ _ _ _ => (pe_callB call_len_str (by rfl) T.m_len PySem.boot_len (pa_cons (pv 5) pa_nil)))) pa_nil))))
      (pss_cons (ps_set (i := 3) sc__law_spread.nd rfl (Or.inl rfl) pe_str)
      (pss_cons (ps_for PassesOwn.never rfl (pi_range1 (by rfl) T.m_range (pa_cons (pe_callB (call_lenK K) (by rfl) T.m_len PySem.boot_len (pa_cons (pv 0) pa_nil)) pa_nil)) (pg_name (i := 4) sc__law_spread.nd rfl (Or.inl rfl))
      (pss_cons (ps_set (i := 3) sc__law_spread.nd rfl (Or.inl rfl) (pe_op op_add_str (pv 3) (pe_ix (ix_listK K) (pv 0) (pv 4) (fun _ _ => rfl))))
      (pss_one (ps_if (pt_cmpR op_lt (pe_op op_add (pv 4) pe_int) (pe_callB (call_lenK K) (by rfl) T.m_len PySem.boot_len (pa_cons (pv 0) pa_nil)) (nomark _)) (pss_one (ps_set (i := 3) sc__law_spread.nd rfl (Or.inl rfl) (pe_op op_add_str (pv 3) (pe_op op_mulS pe_str (pe_op op_fdiv (pe_op op_sub (pe_op op_add (pe_op op_sub (pv 2) (pv 4)) (pe_callB (call_lenK K) (by rfl) T.m_len PySem.boot_len (pa_cons (pv 0) pa_nil))) pe_int) (pe_op op_sub (pe_callB (call_lenK K) (by rfl) T.m_len PySem.boot_len (pa_cons (pv 0) pa_nil)) pe_int)))))) pss_nil))))
      (pss_one (ps_ret (pv 3)))))), ?_⟩
    have hle := hw.le
    have htot := hw.tot
    refine ⟨_, rfl, _, rfl, p, rfl, ⟨_, hS⟩, fun D hD => ?_⟩
    refine lc_list (xs := vts ws) (fun i H' => Same H H' ∧ H' D = some (.lst (vis ((ws.take i).map fun x => (x.length : Int))))) ?_ ?_ ?_ ?_
    · exact ⟨(Same.refl H).new hD, upd_same⟩
    · rintro i H' _ ⟨s1, _⟩; exact s1.seq hS
    · rintro i x H' hx ⟨s1, eD⟩
      have hi : i < ws.length := by have := (List.getElem?_eq_some_iff.mp hx).1; simpa using this
      rw [flat_get (List.getElem?_eq_getElem hi)] at hx
      cases hx
      refine ⟨rfl, ?_⟩
      have hx' := hw.wl (List.getElem_mem hi)
      refine ⟨_, rfl, tx ws[i], rfl, by rw [tx_len]; exact sz (by omega), ?_⟩
      refine ⟨_, eD, by rw [List.length_map, List.length_map, List.length_take]; exact szl (by omega), s1.put hD, ?_⟩
      rw [upd_same, tx_len, List.take_add_one, List.getElem?_eq_getElem hi, List.map_append]
      exact congrArg some (congrArg HO.lst (by simp [vis]))
    rintro H1 ⟨s1, eD⟩
    rw [List.length_map, List.take_length] at eD
    refine ⟨D, _, rfl, .of eD, ?_⟩
    refine ⟨_, _, rfl, rfl, ?_⟩
    rw [len_sum]
    refine ⟨_, rfl, p, _, rfl, .inl (s1.seq hS), ws.length, by rw [List.length_map], by omega, by omega, ?_⟩
    obtain ⟨rest, hrest⟩ : ∃ rest : Nat → List Nat, ∀ i, rest i = match ws.drop i with | [] => [] | x :: r => x ++ sprTail (wd - lsz ws) (ws.length - 1) i r := ⟨_, fun _ => rfl⟩
    refine for_range (n := ws.length) (fun i σ H3 => H3 = H1 ∧ ∃ l y z, σ = [some (.ref p), some (.int wd), some (.int ((wd : Int) - (total ws : Nat))), some (vt l), y, z] ∧
        l ++ rest i = spr ws wd) ?_ ?_ ?_
    · refine ⟨rfl, [], none, none, rfl, ?_⟩
      rw [hrest, List.drop_zero, List.nil_append]
      cases ws with
      | nil => rfl
      | cons x r => 
        show x ++ sprTail _ ((x :: r).length - 1) 0 r = x ++ sprTail _ r.length 0 r
        rw [size_all]; rfl
    · rintro i σ H3 hi ⟨rfl, l, y, z, rfl, el⟩
      have e0 : (0 + (i : Int)) = (i : Int) := by omega
      have gl := gap_le (more := wd - lsz ws) (p := ws.length - 1) (k := i)
      have hS1 := s1.seq hS
      have hsl := spr_le b1
      have ell : l.length + ws[i].length ≤ wd := by
        rw [spr_rest ws wd i hi rest hrest] at el
        have := congrArg List.length el
        simp only [List.length_append] at this; omega
      refine ⟨_, rfl, _, rfl, _, rfl, p, _, _, _, rfl, rfl, hS1, at_of e0 (flat_get (List.getElem?_eq_getElem hi)), _, _, rfl, rfl, ?_, ?_⟩
      · rw [tx_len, tx_len]; exact sz (by omega)
      rw [tx_app]
      rw [spr_rest ws wd i hi rest hrest] at el
      refine ⟨_, rfl, _, _, rfl, rfl, _, rfl, p, _, rfl, .inl hS1, _, _, rfl, rfl, _, rfl, tst (c := i + 1 < ws.length) ?_ (fun h1 => ?_) (fun h1 => ?_)⟩
      · rw [List.length_map]; simp only [decide_eq_decide]; omega
      · rw [if_pos h1] at el
        have hg : ((wd : Int) - (total ws : Nat) - (0 + (i : Int)) + ((vts ws).length : Nat) - 2) / (((vts ws).length : Nat) - 1) = ((gap (wd - lsz ws) (ws.length - 1) i : Nat) : Int) := by
          have := gap_law (more := wd - lsz ws) (p := ws.length - 1) (k := i) (by omega)
          rw [← this, List.length_map, e0]
          have e1 : lsz ws = total ws + (ws.length - 1) := rfl
          have e2 : ((wd - lsz ws + (ws.length - 1) : Nat) : Int) = (wd : Int) - (total ws : Nat) := by omega
          have e3 : ((ws.length - 1 + 1 : Nat) : Int) = (ws.length : Nat) := by omega
          rw [e2, e3]
        obtain ⟨g, hgg⟩ : ∃ g, gap (wd - lsz ws) (ws.length - 1) i = g := ⟨_, rfl⟩
        rw [hgg] at hg el gl
        have e1 : lsz ws = total ws + (ws.length - 1) := rfl
        have elg : l.length + ws[i].length + g ≤ wd := by
          have := congrArg List.length el
          simp only [List.length_append, List.length_replicate] at this; omega
        refine ⟨_, rfl, _, rfl, _, rfl, _, _, rfl, rfl, _, rfl, p, _, rfl, .inl hS1, _, _, rfl, rfl, _, _, rfl, rfl, _, rfl, p, _, rfl, .inl hS1, _, _, rfl, rfl, _, _, rfl, rfl, ?_, ?_⟩
        · refine ⟨?_, ?_⟩
          · show (0 : Int) < ((vts ws).length : Nat) - 1
            rw [List.length_map]; omega
          · show (((vts ws).length : Nat) : Int) - 1 < 1073741824
            rw [List.length_map]; omega
        refine ⟨[32], (g : Int), by rw [lit_sp], by rw [← hg], by omega, by omega, sz (by simp <;> omega), _, _, rfl, rfl, ?_, ?_⟩
        · rw [tx_len, tx_len, rep32, List.length_append, List.length_replicate, Int.toNat_natCast]; exact sz (by omega)
        rw [tx_app, rep32, Int.toNat_natCast]
        refine ⟨rfl, _, some (.int (0 + (i : Int))), _, rfl, ?_⟩
        rw [← el]; simp
      · rw [if_neg h1] at el
        refine ⟨rfl, _, some (.int (0 + (i : Int))), _, rfl, ?_⟩
        rw [← el]; simp
    · rintro σ H3 ⟨rfl, l, y, z, rfl, el⟩
      have : rest ws.length = [] := by rw [hrest, List.drop_length]
      rw [this, List.append_nil] at el
      refine ⟨_, rfl, ?_⟩
      rw [el]
      exact q _ s1

def flagSum (i : Nat) : Int := ((List.range 10).map fun k : Nat => (11 + (k : Int)) * (if (i == k) = true then 1 else 0)).sum
theorem flagSum_eq {i : Nat} (h : i < 10) : flagSum i = 11 + i := by
  have : ∀ i : Fin 10, flagSum i.1 = 11 + (i.1 : Int) := by decide +kernel
  exact this ⟨i, h⟩
theorem ok__law_kind {ea : EA} (A : At K mg "_law_kind" ["_law_e"] st__law_kind) (T : Bts mg) (X : Xs K mg ea) : Kinds P w K mg base ea 1 "_law_kind" "_law_e" := by
  obtain ⟨f, fd, g, F, b⟩ := A.ex
  refine ⟨f, fd, g, F.kp, b, fun i hi => kindFn_of F sc__law_kind fun cdv A outer s H E p Q hot1 hz hr q => ?_⟩
  have hC := (X.c hi).1
  have D := X.d hi
  have hf : ∃ vs, p.2.data = .fields vs := hot1.2.elim fun v z => ⟨v, z.1⟩
  have hp : p ∈ (L2H.cxH CX0 P w K mg base N__law_kind "_law_kind" (defScope st__law_kind) f cdv A outer s H E p).pn := List.mem_cons_self
  have hot : L2H.HotC (L2H.cxH CX0 P w K mg base N__law_kind "_law_kind" (defScope st__law_kind) f cdv A outer s H E p) := ⟨p, hot1, List.mem_cons_self⟩
  have tY : ∀ {C : Addr} (u : Value), RelV (.ref C) u → u = .ref C := fun u r => r
  refine ⟨_, (pss_cons (ps_set (i := 1) sc__law_kind.nd rfl (Or.inr rfl) (pe_lst (pa_cons (pe_callB (call_isP hC hz hf hp) (by rfl) T.m_isinstance (by decide +kernel) (pa_cons (pv 0) (pa_cons (pe_glob (v := .ref _) rfl X.c_NoWidth.g rfl) pa_nil))) (pa_cons (pe_callB (call_isP hC hz hf hp) (by rfl) T.m_isinstance (by decide +kernel) (pa_cons (pv 0) (pa_cons (pe_glob (v := .ref _) rfl X.c_LongWord.g rfl) pa_nil))) (pa_cons (pe_callB (call_isP hC hz hf hp) (by rfl) T.m_isinstance (by decide +kernel) (pa_cons (pv 0) (pa_cons (pe_glob (v := .ref _) rfl X.c_NoStarts.g rfl) pa_nil))) (pa_cons (pe_callB (call_isP hC hz hf hp) (by rfl) T.m_isinstance (by decide +kernel) (pa_cons (pv 0) (pa_cons (pe_glob (v := .ref _) rfl X.c_TooWide.g rfl) pa_nil))) pa_nil))))))
      (pss_cons (ps_set (i := 1) sc__law_kind.nd rfl (Or.inr rfl) (pe_op op_cat (pv 1) (pe_lst (pa_cons (pe_callB (call_isP hC hz hf hp) (by rfl) T.m_isinstance (by decide +kernel) (pa_cons (pv 0) (pa_cons (pe_glob (v := .ref _) rfl X.c_TooFew.g rfl) pa_nil))) (pa_cons (pe_callB (call_isP hC hz hf hp) (by rfl) T.m_isinstance (by decide +kernel) (pa_cons (pv 0) (pa_cons (pe_glob (v := .ref _) rfl X.c_TooMany.g rfl) pa_nil))) (pa_cons (pe_callB (call_isP hC hz hf hp) (by rfl) T.m_isinstance (by decide +kernel) (pa_cons (pv 0) (pa_cons (pe_glob (v := .ref _) rfl X.c_NoPlace.g rfl) pa_nil))) (pa_cons (pe_callB (call_isP hC hz hf hp) (by rfl) T.m_isinstance (by decide +kernel) (pa_cons (pv 0) (pa_cons (pe_glob (v := .ref _) rfl X.c_NoWord.g rfl) pa_nil))) pa_nil)))))))
      (pss_cons (ps_set (i := 1) sc__law_kind.nd rfl (Or.inr rfl) (pe_op op_cat (pv 1) (pe_lst (pa_cons (pe_callB (call_isP hC hz hf hp) (by rfl) T.m_isinstance (by decide +kernel) (pa_cons (pv 0) (pa_cons (pe_glob (v := .ref _) rfl X.c_Full.g rfl) pa_nil))) (pa_cons (pe_callB (call_isP hC hz hf hp) (by rfl) T.m_isinstance (by decide +kernel) (pa_cons (pv 0) (pa_cons (pe_glob (v := .ref _) rfl X.c_NoWayBack.g rfl) pa_nil))) pa_nil)))))
      (pss_one (ps_ret (pe_callB (cr_sumH hot) (by rfl) T.m_sum (by decide +kernel) (pa_cons (pe_lcH (own := [("_law_k", 2)]) (g := gName 2) (tt := tYes) hot sc__law_kind.nd (L2H.pi_range1H (by rfl) T.m_range (pa_cons pe_int pa_nil)) (blkOk_by (own := [("_law_k", 2)]) (N := N__law_kind) (sc := defScope st__law_kind) (by decide +kernel)) (fun _ _ _ _ _ => pg_name (i := 2) sc__law_kind.nd rfl (Or.inl rfl)) (fun _ _ _ _ _ => pts_nil) (fun _ _ _ _ _ => (pe_op op_mul (pe_op op_add pe_int (pv 2)) (pe_callTy call_int1 (by rfl) T.m_int (by decide +kernel) (pa_cons (pe_ix (ix_listK K) (pv 1) (pv 2) (fun _ _ => rfl)) pa_nil))))) pa_nil))))))), ?_⟩
  refine ⟨_, rfl, _, _, _, rfl, tY, D.k0, _, rfl, _, _, _, rfl, tY, D.k1, _, rfl, _, _, _, rfl, tY, D.k2, _, rfl, _, _, _, rfl, tY, D.k3, sz (by simp), fun l1 n1 => ?_⟩
  refine ⟨_, rfl, _, rfl, _, _, _, rfl, tY, D.k4, _, rfl, _, _, _, rfl, tY, D.k5, _, rfl, _, _, _, rfl, tY, D.k6, _, rfl, _, _, _, rfl, tY, D.k7, sz (by simp), fun l2 n2 => ?_⟩
  have s1 := (Same.refl H).new (o := HO.lst [V.bl (i == 0), V.bl (i == 1), V.bl (i == 2), V.bl (i == 3)]) n1
  have s2 := s1.new (o := HO.lst [V.bl (i == 4), V.bl (i == 5), V.bl (i == 6), V.bl (i == 7)]) n2
  refine ⟨l1, l2, _, _, rfl, rfl, kept upd_same n2, upd_same, sz (by simp), fun l3 n3 => ?_⟩
  have s3 := s2.new (o := HO.lst ([V.bl (i == 0), V.bl (i == 1), V.bl (i == 2), V.bl (i == 3)] ++ [V.bl (i == 4), V.bl (i == 5), V.bl (i == 6), V.bl (i == 7)])) n3
  refine ⟨_, rfl, _, rfl, _, _, _, rfl, tY, D.k8, _, rfl, _, _, _, rfl, tY, D.k9, sz (by simp), fun l4 n4 => ?_⟩
  have s4 := s3.new (o := HO.lst [V.bl (i == 8), V.bl (i == 9)]) n4
  refine ⟨l3, l4, _, _, rfl, rfl, kept upd_same n4, upd_same, sz (by simp), fun l5 n5 => ?_⟩
  have s5 := s4.new (o := HO.lst (([V.bl (i == 0), V.bl (i == 1), V.bl (i == 2), V.bl (i == 3)] ++ [V.bl (i == 4), V.bl (i == 5), V.bl (i == 6), V.bl (i == 7)]) ++ [V.bl (i == 8), V.bl (i == 9)])) n5
  have e5 : (upd (upd (upd (upd (upd H l1 (.lst [V.bl (i == 0), V.bl (i == 1), V.bl (i == 2), V.bl (i == 3)])) l2 (.lst [V.bl (i == 4), V.bl (i == 5), V.bl (i == 6), V.bl (i == 7)])) l3
      (.lst ([V.bl (i == 0), V.bl (i == 1), V.bl (i == 2), V.bl (i == 3)] ++ [V.bl (i == 4), V.bl (i == 5), V.bl (i == 6), V.bl (i == 7)]))) l4 (.lst [V.bl (i == 8), V.bl (i == 9)])) l5
      (.lst (([V.bl (i == 0), V.bl (i == 1), V.bl (i == 2), V.bl (i == 3)] ++ [V.bl (i == 4), V.bl (i == 5), V.bl (i == 6), V.bl (i == 7)]) ++ [V.bl (i == 8), V.bl (i == 9)]))) l5 =
      some (.lst ((List.range 10).map fun k => V.bl (i == k))) := upd_same
  generalize (upd (upd (upd (upd (upd H l1 (.lst [V.bl (i == 0), V.bl (i == 1), V.bl (i == 2), V.bl (i == 3)])) l2 (.lst [V.bl (i == 4), V.bl (i == 5), V.bl (i == 6), V.bl (i == 7)])) l3
      (.lst ([V.bl (i == 0), V.bl (i == 1), V.bl (i == 2), V.bl (i == 3)] ++ [V.bl (i == 4), V.bl (i == 5), V.bl (i == 6), V.bl (i == 7)]))) l4 (.lst [V.bl (i == 8), V.bl (i == 9)])) l5
      (.lst (([V.bl (i == 0), V.bl (i == 1), V.bl (i == 2), V.bl (i == 3)] ++ [V.bl (i == 4), V.bl (i == 5), V.bl (i == 6), V.bl (i == 7)]) ++ [V.bl (i == 8), V.bl (i == 9)]))) = H5 at s5 e5 ⊢
  refine ⟨10, rfl, by decide, by decide, fun D0 nD => ?_⟩
  refine lc_range (lo := 0) (n := 10) (fun m H' => Same H5 H' ∧ H' D0 = some (.lst (vis ((List.range m).map fun k : Nat => (11 + (k : Int)) * (if (i == k) = true then 1 else 0))))) ?_ ?_ ?_
  · exact ⟨(Same.refl H5).new nD, upd_same⟩
  · rintro m H' hm ⟨s6, e6⟩
    have g : ((List.range 10).map fun k => V.bl (i == k))[m]? = some (V.bl (i == m)) := by
      rw [List.getElem?_map, List.getElem?_range hm]; rfl
    refine ⟨rfl, ?_⟩
    refine ⟨_, rfl, _, _, rfl, rfl, _, rfl, _, rfl, _, _, _, _, rfl, rfl, .of (s6 _ _ e5), at_of (by omega) g, .inr ⟨_, rfl, _, _, rfl, rfl, .inl ⟨by omega, by omega⟩, ?_⟩⟩
    refine ⟨_, e6, by simp; exact szl (by omega), s6.put nD, ?_⟩
    rw [upd_same, List.range_succ, List.map_append, ← vis_app]
    have e0 : (11 + (0 + (m : Int))) = 11 + (m : Int) := by omega
    simp only [e0, List.map_cons, List.map_nil]
  · rintro H' ⟨s6, e6⟩
    refine ⟨_, _, rfl, .of e6, ?_⟩
    have e7 := flagSum_eq hi
    unfold flagSum at e7
    rw [e7]
    exact q H' (s5.trans s6)

def sp__law_refusal : Sp := fun vs H Q _ => ∃ (l : List Nat) (n : Int), vs = [vt l, .int n] ∧ l.length ≤ 400000 ∧ plainTx l ∧ (∀ p ∈ parts l, Bw p ∧ total p + p.length ≤ 200000) ∧ Wb n ∧ (n < 1 ∨ n < (lgp (parts l) : Nat)) ∧
  (n < 1 → ∀ H', Same H H' → Q (.int 11) H') ∧ (1 ≤ n → ∀ H', Same H H' → Q (.int 12) H')
theorem ok__law_refusal {ea : EA} (A : At K mg "_law_refusal" ["_law_signs", "_law_width"] st__law_refusal) (T : Bts mg) (X : Xs K mg ea)
    (G_squared : Ok P w K mg base (CXn P w) 7 "squared" ["text", "width"] (sp_squared ea)) (G__law_kind : Kinds P w K mg base ea 1 "_law_kind" "_law_e") :
    Ok P w K mg base CX0 8 "_law_refusal" ["_law_signs", "_law_width"] sp__law_refusal := by
  refine A.ok sc__law_refusal (fun vs H Q E h => ?_) (fun f cdv A outer s H vs Q E hr h => ?_)
  · obtain ⟨l, n, rfl, _⟩ := h; rfl
  · obtain ⟨l, n, rfl, hl, hp, hb, hn, hbad, q1, q2⟩ := h
    refine ⟨_, (C8.pss_cut (L2N.ps_try_as (i := 2) rfl rfl sc__law_refusal.nd rfl rfl ⟨rfl, by decide, .inl X.g_wrap⟩ takesN (fun W pn xe tk _ => (pss_one (ps_expr (pe_cdS G_squared (hr.mono (by decide)) (fun z => L2N.passAt tk z) (pa_cons (pv 0) (pa_cons (pv 1) pa_nil)))))) (fun a oe cls d pn hz hf => (pss_one (ps_ret (pe_kind G__law_kind hr (by decide) hz hf (pa_cons (pv 2) pa_nil))))))
      (pss_one (ps_ret pe_int))), ?_⟩
    refine ⟨fun _ _ => False, ?_, fun _ _ z => z.elim⟩
    refine ⟨_, rfl, _, rfl, l, n, rfl, hl, hp, hb, hn, fun z => ?_, fun z1 z2 H' s' => ?_, fun z1 z2 => by omega⟩
    · refine ⟨true, (X.c (i := 0) (by decide)).2.1, fun _ a na => ?_, fun z => nomatch z⟩
      exact ⟨_, rfl, 0, by decide, rfl, rfl, rfl, fun H1 s1 => q1 z H1 s1⟩
    · refine ⟨true, (X.c (i := 1) (by decide)).2.1, fun _ a na => ?_, fun z => nomatch z⟩
      exact ⟨_, rfl, 1, by decide, rfl, rfl, rfl, fun H1 s1 => q2 z1 H1 (s'.trans s1)⟩

def sp__law_longest (K : PySem.W.Frag) : Sp := fun vs H Q _ => ∃ (p : Addr) (as : List Addr) (ps : List (List (List Nat))), vs = [.ref p] ∧ SqL K H p (vas as) ∧ LL H as ps ∧ (∀ x ∈ ps, Bw x) ∧ Q (.int (lgp ps : Nat)) H
theorem ok__law_longest (A : At K mg "_law_longest" ["_law_parts_here"] st__law_longest) (T : Bts mg) : Ok P w K mg base CX0 1 "_law_longest" ["_law_parts_here"] (sp__law_longest K) := by
  refine A.ok sc__law_longest (fun vs H Q E h => ?_) (fun f cdv A outer s H vs Q E hr h => ?_)
  · obtain ⟨p, as, ps, rfl, _⟩ := h; rfl
  · obtain ⟨p, as, ps, rfl, hS, L, hw, q⟩ := h
    refine ⟨_, (pss_cons (ps_set (i := 1) sc__law_longest.nd rfl (Or.inl rfl) pe_int)
      (pss_cons (ps_for PassesOwn.never rfl (pi_list (pv 0)) (pg_name (i := 2) sc__law_longest.nd rfl (Or.inl rfl))
      (pss_one (ps_for PassesOwn.never rfl (pi_list (pv 2)) (pg_name (i := 3) sc__law_longest.nd rfl (Or.inl rfl))
      (pss_one (ps_set (i := 1) sc__law_longest.nd rfl (Or.inl rfl) (pe_callB (call_max2 rfl) (by rfl) T.m_max (by decide +kernel) (pa_cons (pv 1) (pa_cons (pe_callB call_len_str (by rfl) T.m_len PySem.boot_len (pa_cons (pv 3) pa_nil)) pa_nil))))))))
      (pss_one (ps_ret (pv 1))))), ?_⟩
    have hl := L.1
    refine ⟨_, rfl, p, rfl, ⟨_, hS⟩, ?_⟩
    refine for_list (xs := vas as) (fun i σ H3 => H3 = H ∧ ∃ y z, σ = [some (.ref p), some (.int (lgp (ps.take i) : Nat)), y, z]) ⟨rfl, none, none, rfl⟩ ?_ ?_ ?_
    · rintro i σ H3 _ ⟨rfl, _⟩; exact hS
    · rintro i x σ H3 hx ⟨rfl, y, z, rfl⟩
      have hi : i < as.length := by have := (List.getElem?_eq_some_iff.mp hx).1; simpa using this
      rw [flat_get (List.getElem?_eq_getElem hi)] at hx
      cases hx
      obtain ⟨pp, hpp⟩ : ∃ pp, ps[i]? = some pp := ⟨_, List.getElem?_eq_getElem (by omega)⟩
      have hb := hw pp (List.mem_of_getElem? hpp)
      obtain ⟨a, ga, fa⟩ := L.get hpp
      rw [List.getElem?_eq_getElem hi] at ga
      cases ga
      refine ⟨_, rfl, as[i], rfl, ⟨_, .of fa⟩, ?_⟩
      refine for_lst (f := vt) (l := pp) (fun d r σ H4 => H4 = H3 ∧ ∃ z, σ = [some (.ref p), some (.int (max (lgp (ps.take i)) (longest d) : Nat)), some (.ref as[i]), z]) ?_ ?_ ?_ ?_
      · exact ⟨rfl, z, by rw [show longest [] = 0 from rfl, Nat.max_zero]; rfl⟩
      · rintro d r σ H4 ⟨rfl, _⟩; exact .of fa
      · rintro d x r σ H4 e ⟨rfl, z, rfl⟩
        have hx : x ∈ pp := by rw [e]; simp
        refine ⟨_, rfl, _, rfl, tx x, rfl, by rw [tx_len]; exact sz (by have := hb.wl hx; omega), _, _, rfl, rfl, some (vt x), ?_⟩
        rw [tx_len, mxI, longest_app, ← Nat.max_assoc]; rfl
      · rintro σ H4 ⟨rfl, z, rfl⟩
        refine ⟨rfl, some (.ref as[i]), z, ?_⟩
        rw [List.take_add_one, hpp, Option.toList_some, lgp_app]
    · rintro σ H3 ⟨rfl, y, z, rfl⟩
      refine ⟨_, rfl, ?_⟩
      rw [List.length_map, List.take_of_length_le (by omega)]
      exact q

def sp__law_squared (K : PySem.W.Frag) : Sp := fun vs H Q _ => ∃ (p : Addr) (as : List Addr) (l : List Nat) (n : Int), vs = [.ref p, .int n] ∧ SqL K H p (vas as) ∧ LL H as (parts l) ∧ l.length ≤ 400000 ∧ (∀ x ∈ parts l, Bw x ∧ total x + x.length ≤ 200000) ∧ Wb n ∧ 1 ≤ n ∧ ((lgp (parts l) : Nat) : Int) ≤ n ∧
  ∀ H' bs, Same H H' → Bs (Sqb n) (parts l) bs → Q (vt (jn [10, 10] bs)) H'
theorem ok__law_squared {ea : EA} (A : At K mg "_law_squared" ["_law_parts_here", "_law_width"] st__law_squared) (T : Bts mg) (X : Xs K mg ea)
    (G__law_are_starts : Ok P w K mg base CX0 3 "_law_are_starts" ["_law_row", "_law_width", "_law_found"] (sp__law_are_starts K))
    (G__law_spread : Ok P w K mg base CX0 1 "_law_spread" ["_law_row", "_law_width"] (sp__law_spread K))
    (G_best_starts : Ok P w K mg base (CXn P w) 6 "best_starts" ["words", "width"] (sp_best_starts K ea)) :
    Ok P w K mg base CX0 7 "_law_squared" ["_law_parts_here", "_law_width"] (sp__law_squared K) := by
  refine A.ok sc__law_squared (fun vs H Q E h => ?_) (fun f cdv A outer s H vs Q E hr h => ?_)
  · obtain ⟨p, as, l, n, rfl, _⟩ := h; rfl
  · obtain ⟨p, as, l, n, rfl, hS, L, hl, hbw, hn, n1, hlg, q⟩ := h
    refine ⟨_, (pss_cons (ps_set (i := 2) sc__law_squared.nd rfl (Or.inl rfl) (pe_lst pa_nil))
      (pss_cons (ps_for PassesOwn.never rfl (pi_list (pv 0)) (pg_name (i := 3) sc__law_squared.nd rfl (Or.inr rfl))
      (pss_cons (ps_set (i := 4) sc__law_squared.nd rfl (Or.inr rfl) (pe_cd G_best_starts (hr.mono (by decide)) passN (pa_cons (pe_callTy call_list_of (by rfl) T.m_list (by decide +kernel) (pa_cons (pv 3) pa_nil)) (pa_cons (pv 1) pa_nil))))
      (pss_cons (ps_if (pt_not (pt_val (pe_cd G__law_are_starts (hr.mono (by decide)) pass0 (pa_cons (pv 3) (pa_cons (pv 1) (pa_cons (pv 4) pa_nil)))))) (pss_one (ps_ret pe_non)) pss_nil)
      (pss_cons (ps_set (i := 5) sc__law_squared.nd rfl (Or.inr rfl) (pe_op op_cat (pe_slice (sl_listK K) (pv 4) (po_some pe_int) po_none) (pe_lst (pa_cons (pe_callB (call_lenK K) (by rfl) T.m_len PySem.boot_len (pa_cons (pv 3) pa_nil)) pa_nil))))
      (pss_cons (ps_setLc (i := 6) (own := [("_law_k", 7)]) (g := gName 7) (tt := tYes) rfl sc__law_squared.nd rfl rfl (sw_true rfl rfl rfl (by decide +kernel)) (pi_range1 (by rfl) T.m_range (pa_cons (pe_op op_sub (pe_callB (call_lenK K) (by rfl) T.m_len PySem.boot_len (pa_cons (pv 4) pa_nil)) pe_int) pa_nil)) (blkOk_by (own := [("_law_k", 7)]) (N := N__law_squared) (sc := defScope st__law_squared) (by decide +kernel)) (fun _ _ _ _ _ => pg_name (i := 7) sc__law_squared.nd rfl (Or.inl rfl)) (fun _ _ _ _ _ => pts_nil) (fun _ _ _ _ _ => (pe_cd G__law_spread (hr.mono (by decide)) pass0 (pa_cons (pe_slice (sl_listK K) (pv 3) (po_some (pe_ix (ix_listK K) (pv 4) (pv 7) (fun _ _ => rfl))) (po_some (pe_ix (ix_listK K) (pv 5) (pv 7) (fun _ _ => rfl)))) (pa_cons (pv 1) pa_nil)))))
      (pss_cons (ps_expr (pe_bm PySem.F.plainAttrs_list PySem.F.slot_list_append PySem.F.type_list_append mt_append (pv 6) (pa_cons (pe_joinK K pe_str (pe_slice (sl_listK K) (pv 3) (po_some (pe_ix (ix_listK K) (pv 4) (pe_un un_neg pe_int) (fun _ _ => rfl))) po_none)) pa_nil)))
      (pss_one (ps_expr (pe_bm PySem.F.plainAttrs_list PySem.F.slot_list_append PySem.F.type_list_append mt_append (pv 2) (pa_cons (pe_joinK K pe_str (pv 6)) pa_nil))))))))))
      (pss_one (ps_ret (pe_joinK K pe_str (pv 2)))))), ?_⟩
    obtain ⟨wd, rfl⟩ : ∃ wd : Nat, n = (wd : Int) := ⟨n.toNat, by omega⟩
    have hps := L.1
    have pl := parts_length l
    refine ⟨sz (by simp), fun D hD => ?_⟩
    have s1 := (Same.refl H).new (o := HO.lst []) hD
    have eD : (upd H D (HO.lst [])) D = some (.lst (vts [])) := upd_same
    generalize upd H D (HO.lst []) = H1 at s1 eD ⊢
    refine ⟨_, rfl, p, rfl, ⟨_, s1.seq hS⟩, ?_⟩
    refine for_list (xs := vas as) (fun i σ H' => Same H H' ∧ ∃ bs x1 x2 x3 x4 x5, σ = [some (.ref p), some (.int (wd : Nat)), some (.ref D), x1, x2, x3, x4, x5] ∧ H' D = some (.lst (vts bs)) ∧ Bs (Sqb (wd : Int)) ((parts l).take i) bs) ?_ ?_ ?_ ?_
    · exact ⟨s1, [], none, none, none, none, none, rfl, eD, trivial⟩
    · rintro i σ H' _ ⟨s3, _⟩; exact s3.seq hS
    · rintro i x σ H2 hx ⟨s2, bs, x1, x2, x3, x4, x5, rfl, eD2, hbs⟩
      have hi : i < as.length := by have := (List.getElem?_eq_some_iff.mp hx).1; simpa using this
      rw [flat_get (List.getElem?_eq_getElem hi)] at hx
      cases hx
      have hip : i < (parts l).length := by omega
      obtain ⟨pp, hpp⟩ : ∃ pp, (parts l)[i]? = some pp := ⟨_, List.getElem?_eq_getElem hip⟩
      have hm : pp ∈ parts l := List.mem_of_getElem? hpp
      obtain ⟨a, ga, fa⟩ := (L.same s2).get hpp
      rw [List.getElem?_eq_getElem hi] at ga
      cases ga
      obtain ⟨hb, hsm⟩ := hbw pp hm
      have hge := lgp_ge hm
      have ft : Ft pp (wd : Int) := Ft.of n1 (by omega)
      have hbl := hbs.len
      rw [List.length_take] at hbl
      have ett : (parts l).take (i + 1) = (parts l).take i ++ [pp] := by rw [List.take_add_one, hpp]; rfl
      refine ⟨_, rfl, as[i], _, rfl, .inl (.of fa), fun x nx => ?_⟩
      have s3 := s2.new (o := HO.lst (vts pp)) nx
      have k3 := (Same.refl H2).new (o := HO.lst (vts pp)) nx
      have ex : (upd H2 x (HO.lst (vts pp))) x = some (.lst (vts pp)) := upd_same
      generalize upd H2 x (HO.lst (vts pp)) = H3 at s3 k3 ex ⊢
      refine ⟨_, rfl, x, pp, (wd : Int), rfl, .of ex, hb, hn, fun z => by omega, fun _ z => by omega, fun _ H4 o xs ks s4 no eo ht hbc => ?_⟩
      have k4 := k3.trans s4
      have hf := hbc.fc
      have hc := hf.ch
      have hkl := hc.len
      have hble := hb.le
      have hbt := hb.tot
      refine ⟨_, rfl, _, rfl, _, rfl, as[i], o, pp, (wd : Int), ks, rfl, .of (k4 _ _ fa), eo, hb, hf, fun H5 s5 => ⟨_, rfl, iteF ?_⟩⟩
      have k5 := k4.trans s5
      have eo5 := s5 _ _ eo
      refine ⟨_, rfl, 1, rfl, o, _, rfl, .of eo5, fun c nc => ?_⟩
      have k6 := k5.new (o := HO.lst (cutV (vis (toI ks)) (some 1) none)) nc
      have eo6 := kept eo5 nc (o := HO.lst (cutV (vis (toI ks)) (some 1) none))
      have ec : (upd H5 c (HO.lst (cutV (vis (toI ks)) (some 1) none))) c = some (.lst (vis ((toI ks).drop 1))) := by
        rw [upd_same]; exact congrArg some (congrArg HO.lst (cut_from V.int (toI ks) 1))
      generalize upd H5 c (HO.lst (cutV (vis (toI ks)) (some 1) none)) = H6 at k6 eo6 ec ⊢
      refine ⟨_, rfl, as[i], _, rfl, .inl (.of (k6 _ _ fa)), sz (by simp), fun d nd => ?_⟩
      have k7 := k6.new (o := HO.lst [V.int ((vts pp).length : Nat)]) nd
      have eo7 := kept eo6 nd (o := HO.lst [V.int ((vts pp).length : Nat)])
      have ed : (upd H6 d (HO.lst [V.int ((vts pp).length : Nat)])) d = some (.lst [V.int ((vts pp).length : Nat)]) := upd_same
      have ec7 := kept ec nd (o := HO.lst [V.int ((vts pp).length : Nat)])
      generalize upd H6 d (HO.lst [V.int ((vts pp).length : Nat)]) = H7 at k7 eo7 ed ec7 ⊢
      refine ⟨c, d, _, _, rfl, rfl, ec7, ed, sz (by rw [List.length_map, List.length_drop, toI_length]; simp; omega), fun g ng => ?_⟩
      have eg : vis ((toI ks).drop 1) ++ [V.int ((vts pp).length : Nat)] = vis (toI (ks.drop 1 ++ [pp.length])) := by rw [List.length_map]; exact ends_vis ks pp.length
      rw [eg]
      have k8 := k7.new (o := HO.lst (vis (toI (ks.drop 1 ++ [pp.length])))) ng
      have eo8 := kept eo7 ng (o := HO.lst (vis (toI (ks.drop 1 ++ [pp.length]))))
      have eg8 : (upd H7 g (HO.lst (vis (toI (ks.drop 1 ++ [pp.length]))))) g = some (.lst (vis (toI (ks.drop 1 ++ [pp.length])))) := upd_same
      generalize upd H7 g (HO.lst (vis (toI (ks.drop 1 ++ [pp.length])))) = H8 at k8 eo8 eg8 ⊢
      have eD8 := k8 _ _ eD2
      have fa8 := k8 _ _ fa
      have bst : Bst (wd : Int) pp ks := ⟨_, ht, hbc⟩
      have hst := sq_tot n1 bst
      have hne : pp ≠ [] := fun z => by subst z; exact paras_ne (rows [] l) [] hm
      have hk0 : 1 ≤ ks.length := by
        cases ks with
        | nil => exact absurd (List.length_eq_zero_iff.mp (show pp.length = 0 from (show 0 = pp.length from hc).symm)) hne
        | cons a r => simp
      have hln := pairs_length pp.length ks
      have hkk : ((ks.length : Int) - 1).toNat = ks.length - 1 := by omega
      refine ⟨_, rfl, o, _, rfl, .inl (.of eo8), _, _, rfl, rfl, (ks.length : Int) - 1, by rw [List.length_map, toI_length], by omega, by omega, fun C hC => ?_⟩
      refine lc_range (lo := 0) (n := ((ks.length : Int) - 1).toNat) (fun i H' => Same H8 H' ∧ H' C = some (.lst (vts ((sq pp (wd : Int) ks).take i)))) ?_ ?_ ?_
      · exact ⟨(Same.refl _).new hC, upd_same⟩
      · rintro j H' hj ⟨s9, eC⟩
        rw [hkk] at hj
        have e0 : (0 + (j : Int)) = (j : Int) := by omega
        obtain ⟨pr1, hpr⟩ : ∃ q, (pairs pp.length ks)[j]? = some q := ⟨_, List.getElem?_eq_getElem (by omega)⟩
        obtain ⟨g1, g2⟩ := pairs_get hpr
        have f1 : (vis (toI ks))[j]? = some (V.int (pr1.1 : Nat)) := flat_get (toI_get g1)
        have f2 : (vis (toI (ks.drop 1 ++ [pp.length])))[j]? = some (V.int (pr1.2 : Nat)) := flat_get (toI_get g2)
        have hlt : pr1.2 < pp.length := by
          rw [List.getElem?_append_left (by rw [List.length_drop]; omega)] at g2
          exact hc.lt (List.mem_of_mem_drop (List.mem_of_getElem? g2))
        have hbest := hbc.best pr1 (List.mem_of_getElem? hpr)
        have hfit := hbest.2.2.1
        have hw := hbest.wide ht hlt
        have hsp := size_P pp (show pr1.1 < pp.length by have := hbest.1; omega) (Nat.le_refl _)
        have htk := total_take pp pp.length
        have esz : lsz (seg pp pr1.1 pr1.2) = size pp pr1.1 pr1.2 := rfl
        have hln2 : (sq pp (wd : Int) ks)[j]? = some (spr (seg pp pr1.1 pr1.2) wd) := by
          unfold sq; rw [List.getElem?_map, hpr, Int.toNat_natCast]
          show some (if pr1.2 < pp.length then _ else _) = _
          rw [if_pos hlt]
        refine ⟨rfl, ?_⟩
        refine ⟨_, rfl, _, rfl, _, rfl, o, _, _, _, rfl, rfl, .of (s9 _ _ eo8), at_of e0 f1, pr1.1, rfl, _, rfl, _, rfl, g, _, _, _, rfl, rfl, .of (s9 _ _ eg8), at_of e0 f2, pr1.2, rfl, as[i], _, rfl, .of (s9 _ _ fa8), fun c nc => ?_⟩
        have ec : cutV (vts pp) (some (pr1.1 : Int)) (some (pr1.2 : Int)) = vts (seg pp pr1.1 pr1.2) := cut_ft vt pp pr1.1 pr1.2
        have sA := s9.new (o := HO.lst (cutV (vts pp) (some (pr1.1 : Int)) (some (pr1.2 : Int)))) nc
        have eCA := kept eC nc (o := HO.lst (cutV (vts pp) (some (pr1.1 : Int)) (some (pr1.2 : Int))))
        refine ⟨_, rfl, c, seg pp pr1.1 pr1.2, wd, rfl, .of (by rw [upd_same, ec]), hb.seg _ _, by omega, by omega, fun HB sB => ?_⟩
        refine ⟨_, sB _ _ eCA, by rw [List.length_map, List.length_take, sq_length]; exact szl (by omega), (sA.trans sB).put hC, ?_⟩
        rw [upd_same, List.take_add_one, hln2, Option.toList_some, vts_app]
      rintro H9 ⟨s9, eC⟩
      rw [hkk] at eC
      -- the last row
      obtain ⟨prl, hprl⟩ : ∃ q, (pairs pp.length ks)[ks.length - 1]? = some q := ⟨_, List.getElem?_eq_getElem (by omega)⟩
      obtain ⟨g1, g2⟩ := pairs_get hprl
      have hend : prl.2 = pp.length := by
        rw [List.getElem?_append_right (by rw [List.length_drop]; exact Nat.le_refl _), List.length_drop, Nat.sub_self] at g2
        exact (Option.some.inj g2).symm
      have hksne : ks ≠ [] := fun z => by subst z; simp at hk0
      have hIne : toI ks ≠ [] := fun z => hksne (List.map_eq_nil_iff.mp z)
      have hlast : (toI ks).getLast hIne = ((prl.1 : Nat) : Int) := by
        rw [List.getLast_eq_getElem]
        have := toI_get g1
        rw [List.getElem?_eq_getElem (by rw [toI_length]; omega)] at this
        have := Option.some.inj this
        simp only [toI_length]
        exact this
      have hat : atI (vis (toI ks)) (-1) = some (V.int ((prl.1 : Nat) : Int)) := by rw [vis_last hIne, hlast]
      have hlnl : (sq pp (wd : Int) ks)[ks.length - 1]? = some (jn [32] (pp.drop prl.1)) := by
        unfold sq; rw [List.getElem?_map, hprl]
        show some (if prl.2 < pp.length then _ else _) = _
        rw [if_neg (by omega), hend]
        unfold seg
        rw [List.take_of_length_le (by rw [List.length_drop]; exact Nat.le_refl _)]
      have eo9 := s9 _ _ eo8
      have fa9 := s9 _ _ fa8
      have eD9 := s9 _ _ eD8
      refine ⟨_, rfl, .inl ⟨rfl, _, .of eC⟩, ⟨_, rfl⟩, _, rfl, _, rfl, _, rfl, o, _, _, _, rfl, rfl, .of eo9, hat, prl.1, rfl, as[i], _, rfl, .of fa9, fun c nc => ?_⟩
      have ec : cutV (vts pp) (some (prl.1 : Int)) none = vts (pp.drop prl.1) := cut_from vt pp prl.1
      rw [ec]
      have sA := s9.new (o := HO.lst (vts (pp.drop prl.1))) nc
      have ecA : (upd H9 c (HO.lst (vts (pp.drop prl.1)))) c = some (.lst (vts (pp.drop prl.1))) := upd_same
      have eCA := kept eC nc (o := HO.lst (vts (pp.drop prl.1)))
      generalize upd H9 c (HO.lst (vts (pp.drop prl.1))) = HA at sA ecA eCA ⊢
      have t1 := total_drop pp prl.1
      refine ⟨_, c, (pp.drop prl.1).map tx, rfl, rfl, .inl (.of (by rw [ecA, map_vt])), ?_, ?_⟩
      · rw [sum_tx, lit_sp, tx_len, List.length_map, List.length_drop]
        simp only [List.length_cons, List.length_nil]
        omega
      rw [lit_sp, join_tx]
      refine ⟨C, _, _, rfl, rfl, eCA, by rw [List.length_map, List.length_take, sq_length]; exact szl (by omega), ?_⟩
      have sB := sA.put (o := HO.lst (vts ((sq pp (wd : Int) ks).take (ks.length - 1)) ++ [vt (jn [32] (pp.drop prl.1))])) hC
      have eCB : (upd HA C (HO.lst (vts ((sq pp (wd : Int) ks).take (ks.length - 1)) ++ [vt (jn [32] (pp.drop prl.1))]))) C = some (.lst (vts (sq pp (wd : Int) ks))) := by
        rw [upd_same]
        refine congrArg some (congrArg HO.lst ?_)
        have : (sq pp (wd : Int) ks).take (ks.length - 1) ++ [jn [32] (pp.drop prl.1)] = sq pp (wd : Int) ks := by
          have h1 := List.take_add_one (l := sq pp (wd : Int) ks) (i := ks.length - 1)
          rw [hlnl, Option.toList_some, List.take_of_length_le (by rw [sq_length]; omega)] at h1
          exact h1.symm
        rw [← vts_app, this]
      generalize upd HA C (HO.lst (vts ((sq pp (wd : Int) ks).take (ks.length - 1)) ++ [vt (jn [32] (pp.drop prl.1))])) = HB at sB eCB ⊢
      have eDB := sB _ _ eD8
      refine ⟨_, rfl, .inl ⟨rfl, _, .of eDB⟩, ⟨_, rfl⟩, _, rfl, _, C, (sq pp (wd : Int) ks).map tx, rfl, rfl, .inl (.of (by rw [eCB, map_vt])), ?_, ?_⟩
      · rw [sum_tx, lit_nl, tx_len, List.length_map, sq_length]
        simp only [List.length_cons, List.length_nil]
        omega
      · rw [lit_nl, join_tx]
        refine ⟨D, _, _, rfl, rfl, eDB, by rw [List.length_map]; exact szl (by omega), ?_⟩
        refine ⟨(s2.trans (k8.trans sB)).put hD, bs ++ [jn [10] (sq pp (wd : Int) ks)], some (.ref as[i]), some (.ref o), some (.ref g), some (.ref C), x5, rfl, by rw [upd_same, vts_app], ?_⟩
        rw [ett]; exact hbs.snoc ⟨ks, bst, rfl⟩
    · rintro σ H' ⟨s3, bs, x1, x2, x3, x4, x5, rfl, eD3, hbs⟩
      rw [List.length_map, List.take_of_length_le (by omega)] at hbs
      have htl := sq_len n1 hbs
      refine ⟨⟨_, rfl⟩, _, rfl, _, D, bs.map tx, rfl, rfl, .inl (.of (by rw [eD3, map_vt])), ?_, ?_⟩
      · rw [sum_tx, lit_nl2, tx_len, List.length_map]
        simp only [List.length_cons, List.length_nil]
        omega
      · rw [lit_nl2, join_tx]
        exact q H' bs s3 hbs

def sp_law (K : PySem.W.Frag) : Sp := fun vs H Q _ => ∃ (a : Addr) (ns : List Int), vs = [.ref a] ∧ SqL K H a (vis ns) ∧ ns.length ≤ 63 ∧ ∀ H', Q (.bl true) H'
theorem body_law {ea : EA} (T : Bts mg) (X : Xs K mg ea) (G__law_cell_at : Ok P w K mg base CX0 1 "_law_cell_at" ["_law_script", "_law_k"] (sp__law_cell_at K))
    (G__law_text_by : Ok P w K mg base CX0 2 "_law_text_by" ["_law_cells", "_law_flowing"] (sp__law_text_by K))
    (G__law_parts : Ok P w K mg base CX0 1 "_law_parts" ["_law_signs"] sp__law_parts)
    (G__law_longest : Ok P w K mg base CX0 1 "_law_longest" ["_law_parts_here"] (sp__law_longest K))
    (G__law_squared : Ok P w K mg base CX0 7 "_law_squared" ["_law_parts_here", "_law_width"] (sp__law_squared K))
    (G__law_refusal : Ok P w K mg base CX0 8 "_law_refusal" ["_law_signs", "_law_width"] sp__law_refusal)
    (G_squared : Ok P w K mg base (CXn P w) 7 "squared" ["text", "width"] (sp_squared ea))
    (f : Addr) (cdv : Value) (A : Around) (outer : List Env) (s : Shared) (H : Hp) (vs : List V) (Q : VK) (E : XK)
    (hr : Room 8 (A.deeper (envOfC "law" (defScope st_law) s.heap.objs.size f cdv))) (h : sp_law K vs H Q E) :
    ∃ t, PSs (cxOf CX0 P w K mg base N_law "law" (defScope st_law) f cdv A outer s H E).nox (defBody st_law) t ∧ t { nx := fun _ H' => Q .non H', rt := Q } (start N_law vs) H := by
  obtain ⟨a, ns, rfl, hS, hl, q⟩ := h
  refine ⟨_, (pss_cons (ps_set (i := 1) sc_law.nd rfl (Or.inl rfl) (pe_cd G__law_text_by (hr.mono (by decide)) pass0 (pa_cons (pe_slice (sl_listK K) (pv 0) (po_some pe_int) po_none) (pa_cons (pe_cmpR op_eq (pe_op op_mod (pe_op op_fdiv (pe_cd G__law_cell_at (hr.mono (by decide)) pass0 (pa_cons (pv 0) (pa_cons pe_int pa_nil))) pe_int) pe_int) pe_int (nomark _)) pa_nil))))
      (C8.pss_cut (ps_if (pt_cmpR op_eq (pe_op op_mod (pe_cd G__law_cell_at (hr.mono (by decide)) pass0 (pa_cons (pv 0) (pa_cons pe_int pa_nil))) pe_int) pe_int (nomark _)) (pss_one (ps_set (i := 1) sc_law.nd rfl (Or.inl rfl) (pe_op op_mulS (pv 1) (pe_op op_add pe_int (pe_op op_mul pe_int (pe_callTy call_int1 (by rfl) T.m_int (by decide +kernel) (pa_cons (pe_cmpR op_eq (pe_op op_mod (pe_op op_fdiv (pe_cd G__law_cell_at (hr.mono (by decide)) pass0 (pa_cons (pv 0) (pa_cons pe_int pa_nil))) pe_int) pe_int) pe_int (nomark _)) pa_nil))))))) pss_nil)
      (pss_cons (ps_set (i := 2) sc_law.nd rfl (Or.inl rfl) (pe_cd G__law_parts (hr.mono (by decide)) pass0 (pa_cons (pv 1) pa_nil)))
      (pss_cons (ps_set (i := 3) sc_law.nd rfl (Or.inl rfl) (pe_op op_mod (pe_cd G__law_cell_at (hr.mono (by decide)) pass0 (pa_cons (pv 0) (pa_cons pe_int pa_nil))) pe_int))
      (C8.pss_cut (ps_if (pt_cmpR op_gt (pe_op op_mod (pe_op op_fdiv (pe_cd G__law_cell_at (hr.mono (by decide)) pass0 (pa_cons (pv 0) (pa_cons pe_int pa_nil))) pe_int) pe_int) pe_int (nomark _)) (pss_one (ps_set (i := 3) sc_law.nd rfl (Or.inl rfl) (pe_op op_add (pe_cd G__law_longest (hr.mono (by decide)) pass0 (pa_cons (pv 2) pa_nil)) (pe_op op_mod (pe_cd G__law_cell_at (hr.mono (by decide)) pass0 (pa_cons (pv 0) (pa_cons pe_int pa_nil))) pe_int)))) pss_nil)
      (C8.pss_cut (ps_if (pt_cmpR op_eq (pe_op op_mod (pe_op op_fdiv (pe_cd G__law_cell_at (hr.mono (by decide)) pass0 (pa_cons (pv 0) (pa_cons pe_int pa_nil))) pe_int) pe_int) pe_int (nomark _)) (pss_one (ps_set (i := 3) sc_law.nd rfl (Or.inl rfl) (pe_op op_add pe_int (pe_op op_mod (pe_op op_fdiv (pe_cd G__law_cell_at (hr.mono (by decide)) pass0 (pa_cons (pv 0) (pa_cons pe_int pa_nil))) pe_int) pe_int)))) pss_nil)
      (C8.pss_cut (ps_if (pt_cmpR op_eq (pe_op op_mod (pe_op op_fdiv (pe_cd G__law_cell_at (hr.mono (by decide)) pass0 (pa_cons (pv 0) (pa_cons pe_int pa_nil))) pe_int) pe_int) pe_int (nomark _)) (pss_one (ps_set (i := 3) sc_law.nd rfl (Or.inl rfl) (pe_op op_powW pe_int pe_int))) pss_nil)
      (C8.pss_cut (ps_if (pt_cmpR op_eq (pe_op op_mod (pe_op op_fdiv (pe_cd G__law_cell_at (hr.mono (by decide)) pass0 (pa_cons (pv 0) (pa_cons pe_int pa_nil))) pe_int) pe_int) pe_int (nomark _)) (pss_one (ps_set (i := 3) sc_law.nd rfl (Or.inl rfl) (pe_un un_neg (pe_op op_mod (pe_cd G__law_cell_at (hr.mono (by decide)) pass0 (pa_cons (pv 0) (pa_cons pe_int pa_nil))) (pe_op op_powW pe_int pe_int))))) pss_nil)
      (pss_cons (ps_if (PW.pt (pw_or (pt_cmpR op_lt (pv 3) pe_int (nomark _)) (pw_or1 (pt_cmpR op_gt (pe_cd G__law_longest (hr.mono (by decide)) pass0 (pa_cons (pv 2) pa_nil)) (pv 3) (nomark _))))) (pss_one (ps_ret (pe_cmpR op_eq (pe_cd G__law_refusal (hr.mono (by decide)) pass0 (pa_cons (pv 1) (pa_cons (pv 3) pa_nil))) (pe_op op_add pe_int (pe_callTy call_int1 (by rfl) T.m_int (by decide +kernel) (pa_cons (pe_cmpR op_ge (pv 3) pe_int (nomark _)) pa_nil))) (nomark _)))) pss_nil)
      (pss_cons (ps_set (i := 4) sc_law.nd rfl (Or.inl rfl) (pe_cd G__law_squared (hr.mono (by decide)) pass0 (pa_cons (pv 2) (pa_cons (pv 3) pa_nil))))
      (pss_cons (ps_set (i := 5) sc_law.nd rfl (Or.inl rfl) (pe_cd G_squared (hr.mono (by decide)) passN (pa_cons (pv 1) (pa_cons (pv 3) pa_nil))))
      (pss_one (ps_ret (pe_and (pe_cmpR op_notN (pv 4) pe_non (nomark _)) (pe_and (pe_callB call_isi (by rfl) T.m_isinstance (by decide +kernel) (pa_cons (pv 5) (pa_cons (pe_bltn (v := .ty "str") (u := .type "str") (by rfl) T.m_str (by decide +kernel) rfl) pa_nil))) (pe_one (pe_cmpR op_eq (pv 5) (pv 4) (nomark _)))))))))))))))))), ?_⟩
  -- the text
  refine ⟨_, rfl, 2, rfl, a, _, rfl, hS, fun p np => ?_⟩
  have s1 : Same H (upd H p (.lst (cutV (vis ns) (some 2) none))) := (Same.refl H).new np
  have ep : (upd H p (.lst (cutV (vis ns) (some 2) none))) p = some (.lst (vis (ns.drop 2))) := by rw [upd_same]; exact congrArg some (congrArg HO.lst (cut_from V.int ns 2))
  generalize upd H p (.lst (cutV (vis ns) (some 2) none)) = H1 at s1 ep ⊢
  refine ⟨_, rfl, a, ns, 0, rfl, s1.seq hS, _, _, rfl, rfl, ⟨by decide, by decide⟩, _, _, rfl, rfl, (show (0 : Int) < 3 by decide), rfl, p, ns.drop 2, _, rfl, .of ep, by simp; omega, fun l H2 s2 l1 l2 => ?_⟩
  have s02 := s1.trans s2
  have l1' : l.length ≤ 2440 := by simp at l1; omega
  clear s1 s2 ep np l1
  refine ⟨fun σ H' => H' = H2 ∧ ∃ l, σ = [some (.ref a), some (vt l), none, none, none, none] ∧ l.length ≤ 48800 ∧ plainTx l, ?_, ?_⟩
  · refine ⟨_, rfl, a, ns, 0, rfl, s02.seq hS, _, _, rfl, rfl, (show (0 : Int) < 4 by decide), rfl, _, rfl, tst (c := cell ns 0 % 4 = 1) dec_vi (fun n1 => ?_) (fun n1 => ?_)⟩
    · obtain ⟨v, hv⟩ : ∃ v : Int, (if decide (V.int (cell ns 0 / 4 % 4) = V.int 1) = true then (1 : Int) else 0) = v := ⟨_, rfl⟩
      have hv1 : v = 0 ∨ v = 1 := by rw [← hv]; split <;> omega
      refine ⟨_, rfl, _, rfl, a, ns, 0, rfl, s02.seq hS, _, _, rfl, rfl, ⟨by decide, by decide⟩, _, _, rfl, rfl, (show (0 : Int) < 4 by decide), rfl, .inr ⟨_, rfl, ?_⟩⟩
      rw [hv]
      obtain ⟨m, hm⟩ : ∃ m : Int, 5 + 15 * v = m := ⟨_, rfl⟩
      have hm1 : 5 ≤ m ∧ m ≤ 20 := by omega
      have bl : l.length * m.toNat ≤ 48800 := by
        have := Nat.mul_le_mul l1' (show m.toNat ≤ 20 by omega)
        omega
      have e1 : (List.replicate m.toNat l).flatten.length = l.length * m.toNat := by
        rw [List.length_flatten, List.map_replicate, List.sum_replicate_nat, Nat.mul_comm]
      refine ⟨_, _, rfl, rfl, .inl ⟨by decide, by decide⟩, rI0_at (v := .int m) (congrArg V.int hm) ⟨l, m, rfl, rfl, by omega, by omega, ?_, rfl, (List.replicate m.toNat l).flatten, rfl, ?_, ?_⟩⟩
      · first
          | exact sz (by rw [Nat.mul_comm]; omega)
          | exact sz (by omega)
      · rw [e1]; exact bl
      · intro c hc
        obtain ⟨x, hx, hc⟩ := List.mem_flatten.mp hc
        rw [(List.mem_replicate.mp hx).2] at hc
        exact l2 c hc
    · exact ⟨rfl, l, rfl, by omega, l2⟩
  clear l1' l2
  rintro σ H3 ⟨rfl, l, rfl, hl1, hpl⟩
  refine ⟨_, rfl, l, rfl, by omega, fun H4 p as s4 np ep L na => ?_⟩
  have s04 := s02.trans s4
  have hS4 := s04.seq hS
  have hbw := parts_bw (by omega) hpl
  have hbw2 : ∀ p ∈ parts l, Bw p ∧ total p + p.length ≤ 200000 := fun p hp => by
    have h1 := many_mem hp
    have h2 := ptot_mem hp
    have h3 := parts_many l
    have h4 := parts_tot l
    exact ⟨hbw p hp, by omega⟩
  have hlg : lgp (parts l) ≤ 10000000 := mx_le fun x hx => by
    obtain ⟨p, hp, rfl⟩ := List.mem_map.mp hx
    exact longest_le fun w hw => (hbw p hp).wl hw
  obtain ⟨c, hc⟩ : ∃ c, cell ns 1 = c := ⟨_, rfl⟩
  refine ⟨_, rfl, a, ns, 1, rfl, hS4, ?_⟩
  rw [hc]
  refine ⟨_, _, rfl, rfl, (show (0 : Int) < 41 by decide), ?_⟩
  refine ⟨fun σ H' => H' = H4 ∧ ∃ n : Int, σ = [some (.ref a), some (vt l), some (.ref p), some (.int n), none, none] ∧ Wb n, ?_, ?_⟩
  · refine ⟨_, rfl, a, ns, 1, rfl, hS4, ?_⟩
    rw [hc]
    refine ⟨_, _, rfl, rfl, ⟨by decide, by decide⟩, _, _, rfl, rfl, (show (0 : Int) < 4 by decide), _, _, rfl, rfl, _, rfl, tst (c := c / 41 % 4 > 0) rfl (fun n1 => ?_) (fun n1 => ?_)⟩
    · refine ⟨_, rfl, p, as, parts l, rfl, .of ep, L, hbw, _, rfl, a, ns, 1, rfl, hS4, ?_⟩
      rw [hc]
      exact ⟨_, _, rfl, rfl, (show (0 : Int) < 17 by decide), _, _, rfl, rfl, rfl, _, rfl, Wb.sm (by omega) (by omega)⟩
    · exact ⟨rfl, _, rfl, Wb.sm (by omega) (by omega)⟩
  rintro σ H' ⟨rfl, n, rfl, hn⟩
  refine ⟨fun σ H4 => H4 = H' ∧ ∃ n : Int, σ = [some (.ref a), some (vt l), some (.ref p), some (.int n), none, none] ∧ Wb n, ?_, ?_⟩
  · refine ⟨_, rfl, a, ns, 1, rfl, hS4, ?_⟩
    rw [hc]
    refine ⟨_, _, rfl, rfl, ⟨by decide, by decide⟩, _, _, rfl, rfl, (show (0 : Int) < 4 by decide), rfl, _, rfl, tst (c := c / 41 % 4 = 3) dec_vi (fun n1 => ?_) (fun n1 => ?_)⟩
    · refine ⟨_, rfl, a, ns, 1, rfl, hS4, ?_⟩
      rw [hc]
      exact ⟨_, _, rfl, rfl, ⟨by decide, by decide⟩, _, _, rfl, rfl, (show (0 : Int) < 200 by decide), _, _, rfl, rfl, rfl, _, rfl, Wb.sm (by omega) (by omega)⟩
    · exact ⟨rfl, _, rfl, hn⟩
  clear hn
  rintro σ H4 ⟨rfl, n, rfl, hn⟩
  refine ⟨fun σ H' => H' = H4 ∧ ∃ n : Int, σ = [some (.ref a), some (vt l), some (.ref p), some (.int n), none, none] ∧ Wb n, ?_, ?_⟩
  · refine ⟨_, rfl, a, ns, 1, rfl, hS4, ?_⟩
    rw [hc]
    refine ⟨_, _, rfl, rfl, ⟨by decide, by decide⟩, _, _, rfl, rfl, (show (0 : Int) < 9 by decide), rfl, _, rfl, tst (c := c / 123 % 9 = 1) dec_vi (fun n1 => ?_) (fun n1 => ?_)⟩
    · refine ⟨_, _, rfl, rfl, by decide, by decide +kernel, rfl, _, rfl, ?_⟩
      have h30 : (10 : Int) ^ (30 : Int).toNat = 10 ^ 30 := by decide
      rw [h30]
      exact Wb.sm (by decide) (by decide)
    · exact ⟨rfl, _, rfl, hn⟩
  clear hn
  rintro σ H' ⟨rfl, n, rfl, hn⟩
  refine ⟨fun σ H4 => H4 = H' ∧ ∃ n : Int, σ = [some (.ref a), some (vt l), some (.ref p), some (.int n), none, none] ∧ Wb n, ?_, ?_⟩
  · refine ⟨_, rfl, a, ns, 1, rfl, hS4, ?_⟩
    rw [hc]
    refine ⟨_, _, rfl, rfl, ⟨by decide, by decide⟩, _, _, rfl, rfl, (show (0 : Int) < 9 by decide), rfl, _, rfl, tst (c := c / 123 % 9 = 2) dec_vi (fun n1 => ?_) (fun n1 => ?_)⟩
    · refine ⟨_, rfl, a, ns, 1, rfl, hS4, ?_⟩
      rw [hc]
      have h9 : (10 : Int) ^ (9 : Int).toNat = 1000000000 := by decide
      refine ⟨_, _, rfl, rfl, by decide, by decide +kernel, _, _, rfl, rfl, ?_, _, rfl, rfl, _, rfl, ?_⟩
      · show (0 : Int) < 10 ^ 9
        decide
      · rw [h9]
        exact Wb.sm (by omega) (by omega)
    · exact ⟨rfl, _, rfl, hn⟩
  clear hn
  rintro σ H4 ⟨rfl, n, rfl, hn⟩
  -- refused
  refine ⟨_, rfl, _, _, rfl, rfl, _, rfl, ?_⟩
  by_cases h1 : n < 1
  · rw [decide_eq_true h1]
    refine ⟨_, rfl, _, rfl, l, n, rfl, by omega, hpl, hbw2, hn, .inl h1, fun _ H5 s5 => ?_, fun z => absurd z (by omega)⟩
    refine ⟨_, rfl, _, _, rfl, rfl, .inr ⟨_, rfl, ?_⟩⟩
    rw [decide_eq_false (show ¬ 1 ≤ n by omega)]
    refine ⟨_, _, rfl, rfl, rfl, ?_⟩
    exact q _
  rw [decide_eq_false h1]
  refine ⟨_, rfl, p, as, parts l, rfl, .of ep, L, hbw, _, rfl, _, _, rfl, rfl, _, rfl, ?_⟩
  by_cases h2 : n < (lgp (parts l) : Nat)
  · rw [decide_eq_true h2]
    refine ⟨_, rfl, _, rfl, l, n, rfl, by omega, hpl, hbw2, hn, .inr h2, fun z => absurd z h1, fun _ H5 s5 => ?_⟩
    refine ⟨_, rfl, _, _, rfl, rfl, .inr ⟨_, rfl, ?_⟩⟩
    rw [decide_eq_true (show 1 ≤ n by omega)]
    refine ⟨_, _, rfl, rfl, rfl, ?_⟩
    exact q _
  rw [decide_eq_false h2]
  refine iteF ?_
  refine ⟨_, rfl, _, rfl, p, as, l, n, rfl, .of ep, L, by omega, hbw2, hn, by omega, by omega, fun H5 bs s5 hbs => ?_⟩
  refine ⟨_, rfl, _, rfl, l, n, rfl, by omega, hpl, hbw2, hn, fun z => absurd z h1, fun _ z => absurd z h2, fun _ _ H6 bs2 s6 hbs2 => ?_⟩
  have := Bs.only Sqb.only hbs hbs2
  subst this
  refine ⟨_, rfl, rfl, _, rfl, iteT ?_⟩
  refine ⟨_, rfl, _, .ty "str", _, _, true, rfl, .ty "str", .base (.str _), kit_ty (by decide +kernel), true, rfl, iteT ?_⟩
  refine ⟨_, rfl, _, rfl, rfl, ?_⟩
  rw [decide_eq_true rfl]; exact q _

end
theorem all_mk {P : Program} {w : World} {K : PySem.W.Frag} {mg : Str → Option Value} {fa : Addr} {ea : EA} (T : Bts mg) (X : Xs K mg ea)
    (A_size_of : At K mg "size_of" ["words", "begin", "end"] st_size_of)
    (A_need_width : At K mg "need_width" ["width"] st_need_width)
    (A_long_word : At K mg "long_word" ["words", "width"] st_long_word)
    (A_need_fits : At K mg "need_fits" ["words", "width"] st_need_fits)
    (A_line_price : At K mg "line_price" ["words", "width", "begin", "end"] st_line_price)
    (A_are_starts : At K mg "are_starts" ["words", "starts"] st_are_starts)
    (A_spans_of : At K mg "spans_of" ["words", "starts"] st_spans_of)
    (A_best_end : At K mg "best_end" ["words", "width", "table", "at"] st_best_end)
    (A_grown : At K mg "grown" ["words", "width", "tail"] st_grown)
    (A_table_of : At K mg "table_of" ["words", "width"] st_table_of)
    (A_starts_by : At K mg "starts_by" ["words", "width", "table"] st_starts_by)
    (A_best_starts : At K mg "best_starts" ["words", "width"] st_best_starts)
    (A_words_of : At K mg "words_of" ["text"] st_words_of)
    (A_paragraphs_of : At K mg "paragraphs_of" ["text"] st_paragraphs_of)
    (A_spread_line : At K mg "spread_line" ["words", "width"] st_spread_line)
    (A_squared : At K mg "squared" ["text", "width"] st_squared)
    (A__law_cell_at : At K mg "_law_cell_at" ["_law_script", "_law_k"] st__law_cell_at)
    (A__law_sign_by : At K mg "_law_sign_by" ["_law_cell"] st__law_sign_by)
    (A__law_text_by : At K mg "_law_text_by" ["_law_cells", "_law_flowing"] st__law_text_by)
    (A__law_parts : At K mg "_law_parts" ["_law_signs"] st__law_parts)
    (A__law_whole : At K mg "_law_whole" ["_law_found"] st__law_whole)
    (A__law_wholes : At K mg "_law_wholes" ["_law_found"] st__law_wholes)
    (A__law_size : At K mg "_law_size" ["_law_row", "_law_begin", "_law_end"] st__law_size)
    (A__law_are_starts : At K mg "_law_are_starts" ["_law_row", "_law_width", "_law_found"] st__law_are_starts)
    (A__law_spread : At K mg "_law_spread" ["_law_row", "_law_width"] st__law_spread)
    (A__law_kind : At K mg "_law_kind" ["_law_e"] st__law_kind)
    (A__law_refusal : At K mg "_law_refusal" ["_law_signs", "_law_width"] st__law_refusal)
    (A__law_longest : At K mg "_law_longest" ["_law_parts_here"] st__law_longest)
    (A__law_squared : At K mg "_law_squared" ["_law_parts_here", "_law_width"] st__law_squared)
    (A_law : LawAt K fa "law" "_law_script" st_law) :
    ∃ fd : FuncData, (∀ (s : Shared) (v : Value), BindsTo s fd ⟨[v], []⟩ [("_law_script", v)]) ∧ ∀ base : Heap, K.In base → base.Ns mainGlobals mg → FnOk P w K mg base CX0 9 fa fd ["_law_script"] (sp_law K) := by
  obtain ⟨fd, hb, F⟩ := A_law.ex
  refine ⟨fd, hb, fun base _ _ => ?_⟩
  have O_size_of := ok_size_of (P := P) (w := w) (base := base) A_size_of T
  have O_need_width := ok_need_width (P := P) (w := w) (base := base) A_need_width T X
  have O_long_word := ok_long_word (P := P) (w := w) (base := base) A_long_word T X O_need_width
  have O_need_fits := ok_need_fits (P := P) (w := w) (base := base) A_need_fits T X O_long_word
  have O_line_price := ok_line_price (P := P) (w := w) (base := base) A_line_price T O_size_of
  have O_are_starts := ok_are_starts (P := P) (w := w) (base := base) A_are_starts T
  have O_spans_of := ok_spans_of (P := P) (w := w) (base := base) A_spans_of T X O_are_starts
  have O_best_end := ok_best_end (P := P) (w := w) (base := base) A_best_end T O_line_price
  have O_grown := ok_grown (P := P) (w := w) (base := base) A_grown T O_line_price O_best_end
  have O_table_of := ok_table_of (P := P) (w := w) (base := base) A_table_of T X O_need_fits O_grown
  have O_starts_by := ok_starts_by (P := P) (w := w) (base := base) A_starts_by T O_best_end
  have O_best_starts := ok_best_starts (P := P) (w := w) (base := base) A_best_starts T X O_table_of O_starts_by
  have O_words_of := ok_words_of (P := P) (w := w) (base := base) A_words_of T
  have O_paragraphs_of := ok_paragraphs_of (P := P) (w := w) (base := base) A_paragraphs_of T O_words_of
  have O_spread_line := ok_spread_line (P := P) (w := w) (base := base) A_spread_line T X O_need_width O_size_of
  have O_squared := ok_squared (P := P) (w := w) (base := base) A_squared T X O_need_width O_paragraphs_of O_spans_of O_spread_line O_best_starts
  have O__law_cell_at := ok__law_cell_at (P := P) (w := w) (base := base) A__law_cell_at T
  have O__law_sign_by := ok__law_sign_by (P := P) (w := w) (base := base) A__law_sign_by T
  have O__law_text_by := ok__law_text_by (P := P) (w := w) (base := base) A__law_text_by T O__law_sign_by
  have O__law_parts := ok__law_parts (P := P) (w := w) (base := base) A__law_parts T
  have O__law_whole := ok__law_whole (P := P) (w := w) (base := base) A__law_whole T
  have O__law_wholes := ok__law_wholes (P := P) (w := w) (base := base) A__law_wholes T O__law_whole
  have O__law_size := ok__law_size (P := P) (w := w) (base := base) A__law_size T
  have O__law_are_starts := ok__law_are_starts (P := P) (w := w) (base := base) A__law_are_starts T O__law_wholes O__law_size
  have O__law_spread := ok__law_spread (P := P) (w := w) (base := base) A__law_spread T
  have O__law_kind := ok__law_kind (P := P) (w := w) (base := base) A__law_kind T X
  have O__law_refusal := ok__law_refusal (P := P) (w := w) (base := base) A__law_refusal T X O_squared O__law_kind
  have O__law_longest := ok__law_longest (P := P) (w := w) (base := base) A__law_longest T
  have O__law_squared := ok__law_squared (P := P) (w := w) (base := base) A__law_squared T X O__law_are_starts O__law_spread O_best_starts
  refine F.ok sc_law (fun vs H Q E h => ?_) (fun cdv A outer s H vs Q E hr h => body_law T X O__law_cell_at O__law_text_by O__law_parts O__law_longest O__law_squared O__law_refusal O_squared fa cdv A outer s H vs Q E hr h)
  obtain ⟨a, ns, rfl, _⟩ := h; rfl
end Tw
open PySem PySem.W PyProof.Rows
set_option maxHeartbeats 0 in
theorem PySem.Challenge.cw_textwrapper_k13_whole_text_squared_holds : PySem.Challenge.rw_textwrapper_k13_whole_text_squared.Holds := by
  w_on; o_law; k_head; (case hw => w_witness2)
  k_fill
  refine L2.walk_of (l := PySem.Challenge.rw_textwrapper_k13_whole_text_squared) (n := 63) (k := 9) (x := "_law_script") (CX := fun _ => L2.CX0) (sp := fun w => Tw.sp_law _) rfl (by decide) rfl ⟨rfl, by decide, by decide⟩ (fun w h Y => PySem.W.kIn_of Y) ?F (fun _ _ a ns hl _ hS => ⟨a, ns, rfl, hS, hl, fun _ => rfl⟩) (fun _ _ _ _ _ h => h)
  case F =>
    intro w mg fa h KX G hmg
    refine' Tw.all_mk ?T ?X ?A_size_of ?A_need_width ?A_long_word ?A_need_fits ?A_line_price ?A_are_starts ?A_spans_of ?A_best_end ?A_grown ?A_table_of ?A_starts_by ?A_best_starts ?A_words_of ?A_paragraphs_of ?A_spread_line ?A_squared ?A__law_cell_at ?A__law_sign_by ?A__law_text_by ?A__law_parts ?A__law_whole ?A__law_wholes ?A__law_size ?A__law_are_starts ?A__law_spread ?A__law_kind ?A__law_refusal ?A__law_longest ?A__law_squared ?A_law
    case T =>
      refine' Tw.bts_mk KX G ?z1 ?z2 ?z3 ?z4 ?z5 ?z6 ?z7 ?z8 ?z9 ?z10 ?z11 ?z12
      (case z1 => k_is); (case z2 => k_is); (case z3 => k_is); (case z4 => k_is); (case z5 => k_is); (case z6 => k_is); (case z7 => k_is); (case z8 => k_is); (case z9 => k_is); (case z10 => k_is); (case z11 => k_is); (case z12 => k_is)
    case X =>
      refine' Tw.xs_mk KX G ?w ?c0 ?c1 ?c2 ?c3 ?c4 ?c5 ?c6 ?c7 ?c8 ?c9 ?d0 ?d1 ?d2 ?d3 ?d4 ?d5 ?d6 ?d7 ?d8 ?d9
      (case w => k_is)
      case c0 =>
        refine' Tw.xc_mk KX G ?a ?ex ?kp ?b ?t ?m1 ?m2 ?m3 ?m4 ?ve ?wc ?g1 ?g2 ?g4 ?g5 ?g6 ?g7 ?g8
        (case a => k_is); (case ex => k_exc); (case kp => k_is); (case b => k_is); (case t => k_is); (case m1 => k_is); (case m2 => k_is); (case m3 => k_is); (case m4 => k_is); (case ve => k_is); (case wc => exact Tw.cls_some (by k_is)); (case g1 => k_is); (case g2 => k_is); (case g4 => k_is); (case g5 => k_is); (case g6 => k_is); (case g7 => k_is); (case g8 => k_is)
      case c1 =>
        refine' Tw.xc_mk KX G ?a ?ex ?kp ?b ?t ?m1 ?m2 ?m3 ?m4 ?ve ?wc ?g1 ?g2 ?g4 ?g5 ?g6 ?g7 ?g8
        (case a => k_is); (case ex => k_exc); (case kp => k_is); (case b => k_is); (case t => k_is); (case m1 => k_is); (case m2 => k_is); (case m3 => k_is); (case m4 => k_is); (case ve => k_is); (case wc => exact Tw.cls_some (by k_is)); (case g1 => k_is); (case g2 => k_is); (case g4 => k_is); (case g5 => k_is); (case g6 => k_is); (case g7 => k_is); (case g8 => k_is)
      case c2 =>
        refine' Tw.xc_mk KX G ?a ?ex ?kp ?b ?t ?m1 ?m2 ?m3 ?m4 ?ve ?wc ?g1 ?g2 ?g4 ?g5 ?g6 ?g7 ?g8
        (case a => k_is); (case ex => k_exc); (case kp => k_is); (case b => k_is); (case t => k_is); (case m1 => k_is); (case m2 => k_is); (case m3 => k_is); (case m4 => k_is); (case ve => k_is); (case wc => exact Tw.cls_some (by k_is)); (case g1 => k_is); (case g2 => k_is); (case g4 => k_is); (case g5 => k_is); (case g6 => k_is); (case g7 => k_is); (case g8 => k_is)
      case c3 =>
        refine' Tw.xc_mk KX G ?a ?ex ?kp ?b ?t ?m1 ?m2 ?m3 ?m4 ?ve ?wc ?g1 ?g2 ?g4 ?g5 ?g6 ?g7 ?g8
        (case a => k_is); (case ex => k_exc); (case kp => k_is); (case b => k_is); (case t => k_is); (case m1 => k_is); (case m2 => k_is); (case m3 => k_is); (case m4 => k_is); (case ve => k_is); (case wc => exact Tw.cls_some (by k_is)); (case g1 => k_is); (case g2 => k_is); (case g4 => k_is); (case g5 => k_is); (case g6 => k_is); (case g7 => k_is); (case g8 => k_is)
      case c4 =>
        refine' Tw.xc_mk KX G ?a ?ex ?kp ?b ?t ?m1 ?m2 ?m3 ?m4 ?ve ?wc ?g1 ?g2 ?g4 ?g5 ?g6 ?g7 ?g8
        (case a => k_is); (case ex => k_exc); (case kp => k_is); (case b => k_is); (case t => k_is); (case m1 => k_is); (case m2 => k_is); (case m3 => k_is); (case m4 => k_is); (case ve => k_is); (case wc => exact Tw.cls_some (by k_is)); (case g1 => k_is); (case g2 => k_is); (case g4 => k_is); (case g5 => k_is); (case g6 => k_is); (case g7 => k_is); (case g8 => k_is)
      case c5 =>
        refine' Tw.xc_mk KX G ?a ?ex ?kp ?b ?t ?m1 ?m2 ?m3 ?m4 ?ve ?wc ?g1 ?g2 ?g4 ?g5 ?g6 ?g7 ?g8
        (case a => k_is); (case ex => k_exc); (case kp => k_is); (case b => k_is); (case t => k_is); (case m1 => k_is); (case m2 => k_is); (case m3 => k_is); (case m4 => k_is); (case ve => k_is); (case wc => exact Tw.cls_some (by k_is)); (case g1 => k_is); (case g2 => k_is); (case g4 => k_is); (case g5 => k_is); (case g6 => k_is); (case g7 => k_is); (case g8 => k_is)
      case c6 =>
        refine' Tw.xc_mk KX G ?a ?ex ?kp ?b ?t ?m1 ?m2 ?m3 ?m4 ?ve ?wc ?g1 ?g2 ?g4 ?g5 ?g6 ?g7 ?g8
        (case a => k_is); (case ex => k_exc); (case kp => k_is); (case b => k_is); (case t => k_is); (case m1 => k_is); (case m2 => k_is); (case m3 => k_is); (case m4 => k_is); (case ve => k_is); (case wc => exact Tw.cls_some (by k_is)); (case g1 => k_is); (case g2 => k_is); (case g4 => k_is); (case g5 => k_is); (case g6 => k_is); (case g7 => k_is); (case g8 => k_is)
      case c7 =>
        refine' Tw.xc_mk KX G ?a ?ex ?kp ?b ?t ?m1 ?m2 ?m3 ?m4 ?ve ?wc ?g1 ?g2 ?g4 ?g5 ?g6 ?g7 ?g8
        (case a => k_is); (case ex => k_exc); (case kp => k_is); (case b => k_is); (case t => k_is); (case m1 => k_is); (case m2 => k_is); (case m3 => k_is); (case m4 => k_is); (case ve => k_is); (case wc => exact Tw.cls_some (by k_is)); (case g1 => k_is); (case g2 => k_is); (case g4 => k_is); (case g5 => k_is); (case g6 => k_is); (case g7 => k_is); (case g8 => k_is)
      case c8 =>
        refine' Tw.xc_mk KX G ?a ?ex ?kp ?b ?t ?m1 ?m2 ?m3 ?m4 ?ve ?wc ?g1 ?g2 ?g4 ?g5 ?g6 ?g7 ?g8
        (case a => k_is); (case ex => k_exc); (case kp => k_is); (case b => k_is); (case t => k_is); (case m1 => k_is); (case m2 => k_is); (case m3 => k_is); (case m4 => k_is); (case ve => k_is); (case wc => exact Tw.cls_some (by k_is)); (case g1 => k_is); (case g2 => k_is); (case g4 => k_is); (case g5 => k_is); (case g6 => k_is); (case g7 => k_is); (case g8 => k_is)
      case c9 =>
        refine' Tw.xc_mk KX G ?a ?ex ?kp ?b ?t ?m1 ?m2 ?m3 ?m4 ?ve ?wc ?g1 ?g2 ?g4 ?g5 ?g6 ?g7 ?g8
        (case a => k_is); (case ex => k_exc); (case kp => k_is); (case b => k_is); (case t => k_is); (case m1 => k_is); (case m2 => k_is); (case m3 => k_is); (case m4 => k_is); (case ve => k_is); (case wc => exact Tw.cls_some (by k_is)); (case g1 => k_is); (case g2 => k_is); (case g4 => k_is); (case g5 => k_is); (case g6 => k_is); (case g7 => k_is); (case g8 => k_is)
      case d0 =>
        refine' Tw.Sd.mk ?k0 ?k1 ?k2 ?k3 ?k4 ?k5 ?k6 ?k7 ?k8 ?k9
        (case k0 => k_is); (case k1 => k_is); (case k2 => k_is); (case k3 => k_is); (case k4 => k_is); (case k5 => k_is); (case k6 => k_is); (case k7 => k_is); (case k8 => k_is); (case k9 => k_is)
      case d1 =>
        refine' Tw.Sd.mk ?k0 ?k1 ?k2 ?k3 ?k4 ?k5 ?k6 ?k7 ?k8 ?k9
        (case k0 => k_is); (case k1 => k_is); (case k2 => k_is); (case k3 => k_is); (case k4 => k_is); (case k5 => k_is); (case k6 => k_is); (case k7 => k_is); (case k8 => k_is); (case k9 => k_is)
      case d2 =>
        refine' Tw.Sd.mk ?k0 ?k1 ?k2 ?k3 ?k4 ?k5 ?k6 ?k7 ?k8 ?k9
        (case k0 => k_is); (case k1 => k_is); (case k2 => k_is); (case k3 => k_is); (case k4 => k_is); (case k5 => k_is); (case k6 => k_is); (case k7 => k_is); (case k8 => k_is); (case k9 => k_is)
      case d3 =>
        refine' Tw.Sd.mk ?k0 ?k1 ?k2 ?k3 ?k4 ?k5 ?k6 ?k7 ?k8 ?k9
        (case k0 => k_is); (case k1 => k_is); (case k2 => k_is); (case k3 => k_is); (case k4 => k_is); (case k5 => k_is); (case k6 => k_is); (case k7 => k_is); (case k8 => k_is); (case k9 => k_is)
      case d4 =>
        refine' Tw.Sd.mk ?k0 ?k1 ?k2 ?k3 ?k4 ?k5 ?k6 ?k7 ?k8 ?k9
        (case k0 => k_is); (case k1 => k_is); (case k2 => k_is); (case k3 => k_is); (case k4 => k_is); (case k5 => k_is); (case k6 => k_is); (case k7 => k_is); (case k8 => k_is); (case k9 => k_is)
      case d5 =>
        refine' Tw.Sd.mk ?k0 ?k1 ?k2 ?k3 ?k4 ?k5 ?k6 ?k7 ?k8 ?k9
        (case k0 => k_is); (case k1 => k_is); (case k2 => k_is); (case k3 => k_is); (case k4 => k_is); (case k5 => k_is); (case k6 => k_is); (case k7 => k_is); (case k8 => k_is); (case k9 => k_is)
      case d6 =>
        refine' Tw.Sd.mk ?k0 ?k1 ?k2 ?k3 ?k4 ?k5 ?k6 ?k7 ?k8 ?k9
        (case k0 => k_is); (case k1 => k_is); (case k2 => k_is); (case k3 => k_is); (case k4 => k_is); (case k5 => k_is); (case k6 => k_is); (case k7 => k_is); (case k8 => k_is); (case k9 => k_is)
      case d7 =>
        refine' Tw.Sd.mk ?k0 ?k1 ?k2 ?k3 ?k4 ?k5 ?k6 ?k7 ?k8 ?k9
        (case k0 => k_is); (case k1 => k_is); (case k2 => k_is); (case k3 => k_is); (case k4 => k_is); (case k5 => k_is); (case k6 => k_is); (case k7 => k_is); (case k8 => k_is); (case k9 => k_is)
      case d8 =>
        refine' Tw.Sd.mk ?k0 ?k1 ?k2 ?k3 ?k4 ?k5 ?k6 ?k7 ?k8 ?k9
        (case k0 => k_is); (case k1 => k_is); (case k2 => k_is); (case k3 => k_is); (case k4 => k_is); (case k5 => k_is); (case k6 => k_is); (case k7 => k_is); (case k8 => k_is); (case k9 => k_is)
      case d9 =>
        refine' Tw.Sd.mk ?k0 ?k1 ?k2 ?k3 ?k4 ?k5 ?k6 ?k7 ?k8 ?k9
        (case k0 => k_is); (case k1 => k_is); (case k2 => k_is); (case k3 => k_is); (case k4 => k_is); (case k5 => k_is); (case k6 => k_is); (case k7 => k_is); (case k8 => k_is); (case k9 => k_is)
    case A_size_of =>
      refine' Tw.at_mk KX G ?a ?l ?c ?k ?b
      (case a => k_is); (case l => k_is); (case c => k_is); (case k => k_is)
      (case b => exact fun _ _ _ _ _ _ us hl => match us, hl with | [_, _, _], _ => rfl)
    case A_need_width =>
      refine' Tw.at_mk KX G ?a ?l ?c ?k ?b
      (case a => k_is); (case l => k_is); (case c => k_is); (case k => k_is)
      (case b => exact fun _ _ _ _ _ _ us hl => match us, hl with | [_], _ => rfl)
    case A_long_word =>
      refine' Tw.at_mk KX G ?a ?l ?c ?k ?b
      (case a => k_is); (case l => k_is); (case c => k_is); (case k => k_is)
      (case b => exact fun _ _ _ _ _ _ us hl => match us, hl with | [_, _], _ => rfl)
    case A_need_fits =>
      refine' Tw.at_mk KX G ?a ?l ?c ?k ?b
      (case a => k_is); (case l => k_is); (case c => k_is); (case k => k_is)
      (case b => exact fun _ _ _ _ _ _ us hl => match us, hl with | [_, _], _ => rfl)
    case A_line_price =>
      refine' Tw.at_mk KX G ?a ?l ?c ?k ?b
      (case a => k_is); (case l => k_is); (case c => k_is); (case k => k_is)
      (case b => exact fun _ _ _ _ _ _ us hl => match us, hl with | [_, _, _, _], _ => rfl)
    case A_are_starts =>
      refine' Tw.at_mk KX G ?a ?l ?c ?k ?b
      (case a => k_is); (case l => k_is); (case c => k_is); (case k => k_is)
      (case b => exact fun _ _ _ _ _ _ us hl => match us, hl with | [_, _], _ => rfl)
    case A_spans_of =>
      refine' Tw.at_mk KX G ?a ?l ?c ?k ?b
      (case a => k_is); (case l => k_is); (case c => k_is); (case k => k_is)
      (case b => exact fun _ _ _ _ _ _ us hl => match us, hl with | [_, _], _ => rfl)
    case A_best_end =>
      refine' Tw.at_mk KX G ?a ?l ?c ?k ?b
      (case a => k_is); (case l => k_is); (case c => k_is); (case k => k_is)
      (case b => exact fun _ _ _ _ _ _ us hl => match us, hl with | [_, _, _, _], _ => rfl)
    case A_grown =>
      refine' Tw.at_mk KX G ?a ?l ?c ?k ?b
      (case a => k_is); (case l => k_is); (case c => k_is); (case k => k_is)
      (case b => exact fun _ _ _ _ _ _ us hl => match us, hl with | [_, _, _], _ => rfl)
    case A_table_of =>
      refine' Tw.at_mk KX G ?a ?l ?c ?k ?b
      (case a => k_is); (case l => k_is); (case c => k_is); (case k => k_is)
      (case b => exact fun _ _ _ _ _ _ us hl => match us, hl with | [_, _], _ => rfl)
    case A_starts_by =>
      refine' Tw.at_mk KX G ?a ?l ?c ?k ?b
      (case a => k_is); (case l => k_is); (case c => k_is); (case k => k_is)
      (case b => exact fun _ _ _ _ _ _ us hl => match us, hl with | [_, _, _], _ => rfl)
    case A_best_starts =>
      refine' Tw.at_mk KX G ?a ?l ?c ?k ?b
      (case a => k_is); (case l => k_is); (case c => k_is); (case k => k_is)
      (case b => exact fun _ _ _ _ _ _ us hl => match us, hl with | [_, _], _ => rfl)
    case A_words_of =>
      refine' Tw.at_mk KX G ?a ?l ?c ?k ?b
      (case a => k_is); (case l => k_is); (case c => k_is); (case k => k_is)
      (case b => exact fun _ _ _ _ _ _ us hl => match us, hl with | [_], _ => rfl)
    case A_paragraphs_of =>
      refine' Tw.at_mk KX G ?a ?l ?c ?k ?b
      (case a => k_is); (case l => k_is); (case c => k_is); (case k => k_is)
      (case b => exact fun _ _ _ _ _ _ us hl => match us, hl with | [_], _ => rfl)
    case A_spread_line =>
      refine' Tw.at_mk KX G ?a ?l ?c ?k ?b
      (case a => k_is); (case l => k_is); (case c => k_is); (case k => k_is)
      (case b => exact fun _ _ _ _ _ _ us hl => match us, hl with | [_, _], _ => rfl)
    case A_squared =>
      refine' Tw.at_mk KX G ?a ?l ?c ?k ?b
      (case a => k_is); (case l => k_is); (case c => k_is); (case k => k_is)
      (case b => exact fun _ _ _ _ _ _ us hl => match us, hl with | [_, _], _ => rfl)
    case A__law_cell_at =>
      refine' Tw.at_mk KX G ?a ?l ?c ?k ?b
      (case a => k_is); (case l => k_is); (case c => k_is); (case k => k_is)
      (case b => exact fun _ _ _ _ _ _ us hl => match us, hl with | [_, _], _ => rfl)
    case A__law_sign_by =>
      refine' Tw.at_mk KX G ?a ?l ?c ?k ?b
      (case a => k_is); (case l => k_is); (case c => k_is); (case k => k_is)
      (case b => exact fun _ _ _ _ _ _ us hl => match us, hl with | [_], _ => rfl)
    case A__law_text_by =>
      refine' Tw.at_mk KX G ?a ?l ?c ?k ?b
      (case a => k_is); (case l => k_is); (case c => k_is); (case k => k_is)
      (case b => exact fun _ _ _ _ _ _ us hl => match us, hl with | [_, _], _ => rfl)
    case A__law_parts =>
      refine' Tw.at_mk KX G ?a ?l ?c ?k ?b
      (case a => k_is); (case l => k_is); (case c => k_is); (case k => k_is)
      (case b => exact fun _ _ _ _ _ _ us hl => match us, hl with | [_], _ => rfl)
    case A__law_whole =>
      refine' Tw.at_mk KX G ?a ?l ?c ?k ?b
      (case a => k_is); (case l => k_is); (case c => k_is); (case k => k_is)
      (case b => exact fun _ _ _ _ _ _ us hl => match us, hl with | [_], _ => rfl)
    case A__law_wholes =>
      refine' Tw.at_mk KX G ?a ?l ?c ?k ?b
      (case a => k_is); (case l => k_is); (case c => k_is); (case k => k_is)
      (case b => exact fun _ _ _ _ _ _ us hl => match us, hl with | [_], _ => rfl)
    case A__law_size =>
      refine' Tw.at_mk KX G ?a ?l ?c ?k ?b
      (case a => k_is); (case l => k_is); (case c => k_is); (case k => k_is)
      (case b => exact fun _ _ _ _ _ _ us hl => match us, hl with | [_, _, _], _ => rfl)
    case A__law_are_starts =>
      refine' Tw.at_mk KX G ?a ?l ?c ?k ?b
      (case a => k_is); (case l => k_is); (case c => k_is); (case k => k_is)
      (case b => exact fun _ _ _ _ _ _ us hl => match us, hl with | [_, _, _], _ => rfl)
    case A__law_spread =>
      refine' Tw.at_mk KX G ?a ?l ?c ?k ?b
      (case a => k_is); (case l => k_is); (case c => k_is); (case k => k_is)
      (case b => exact fun _ _ _ _ _ _ us hl => match us, hl with | [_, _], _ => rfl)
    case A__law_kind =>
      refine' Tw.at_mk KX G ?a ?l ?c ?k ?b
      (case a => k_is); (case l => k_is); (case c => k_is); (case k => k_is)
      (case b => exact fun _ _ _ _ _ _ us hl => match us, hl with | [_], _ => rfl)
    case A__law_refusal =>
      refine' Tw.at_mk KX G ?a ?l ?c ?k ?b
      (case a => k_is); (case l => k_is); (case c => k_is); (case k => k_is)
      (case b => exact fun _ _ _ _ _ _ us hl => match us, hl with | [_, _], _ => rfl)
    case A__law_longest =>
      refine' Tw.at_mk KX G ?a ?l ?c ?k ?b
      (case a => k_is); (case l => k_is); (case c => k_is); (case k => k_is)
      (case b => exact fun _ _ _ _ _ _ us hl => match us, hl with | [_], _ => rfl)
    case A__law_squared =>
      refine' Tw.at_mk KX G ?a ?l ?c ?k ?b
      (case a => k_is); (case l => k_is); (case c => k_is); (case k => k_is)
      (case b => exact fun _ _ _ _ _ _ us hl => match us, hl with | [_, _], _ => rfl)
    case A_law =>
      refine' Tw.lawat_mk KX G hmg ?a ?l ?c ?k ?b
      (case a => k_is); (case l => k_is); (case c => k_is); (case k => k_is)
      (case b => exact fun _ _ _ _ _ _ s v => .of_eq rfl)
